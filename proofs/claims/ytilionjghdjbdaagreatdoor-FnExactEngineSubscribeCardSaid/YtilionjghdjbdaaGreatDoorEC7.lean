/- FnExactEngineSubscribe: for every input the law returns true and changes nothing that was there. Part 8 of 9. -/
import Derived.Test.YtilionjghdjbdaaGreatDoorEC6
set_option linter.unusedVariables false
set_option linter.unusedSimpArgs false
set_option linter.unnecessarySimpa false
set_option linter.unusedSectionVars false
set_option maxRecDepth 1000000
namespace Go.Proofs.YtilionjghdjbdaaGreatDoor
namespace D
open Go.RowKit
theorem YS {α:Type} {l:List α} (h:l.length=3): ∃a b c,l= [a,b,c]:=by
 match l,h with
 | [a,b,c],_=>exact ⟨a,b,c,rfl⟩
abbrev EgT:Type:=Int×Int×Int×Int
theorem RS (c:UInt8) (cur l:List UInt8):1<=(oT c cur l).length:=by
 rcases tg c l with k | ⟨a,r,rfl,k⟩
 ·rw[nR k];simp
 ·rw[qo k];simp
theorem GL (u:Nat): ∀b∈Lib.decDigits u,48<=b.toNat/\b.toNat<=57:=by
 induction u using Nat.strongRecOn with
 | _ u ih =>
  intro b hb
  have k: ∀d,d<10->48<=(UInt8.ofNat (48+d)).toNat/\(UInt8.ofNat (48+d)).toNat<=57:=fun d hd=>by
   have e:(UInt8.ofNat (48+d)).toNat=48+d:=by simp;omega
   omega
  by_cases h:u<10
  ·rw[Lib.decDigits_one h] at hb
   obtain rfl:=ay hb
   exact k u h
  ·rw[y6 h] at hb
   rcases aI hb with hb | hb
   ·exact ih (u / 10) (by omega) b hb
   ·obtain rfl:=ay hb
    exact k _ (Nat.mod_lt _ (by omega))
theorem RT (n:Int): ∀b∈Lib.itoa n,b.toNat=45\/48<=b.toNat/\b.toNat<=57:=by
 intro b hb
 unfold Lib.itoa at hb
 split at hb
 ·rcases aE hb with rfl | hb
  ·exact .inl rfl
  ·exact .inr (GL _ b hb)
 ·exact .inr (GL _ b hb)
theorem To {n:Int} {c:UInt8} (h1:c.toNat≠45) (h2:c.toNat<48\/57<c.toNat):c∉Lib.itoa n:=fun h=>by
 rcases RT n c h with k | k <;> omega
theorem Tp {n:Int} (h:0<=n/\n<=9):Lib.itoa n= [UInt8.ofNat (48+n.toNat)]:=by
 unfold Lib.itoa
 rw[if_neg (by omega),Lib.decDigits_one (by omega)]
theorem Iz {e:EgT} (h:edOk e):sk e=Lib.itoa e.1++58:: [UInt8.ofNat (48+e.2.1.toNat),UInt8.ofNat (97+e.2.2.2.toNat),UInt8.ofNat (48+e.2.2.1.toNat)]:=by
 obtain ⟨-,h2,h3,-⟩:=h
 unfold sk
 rw[Tp (n:=e.2.1) (by omega),Tp (n:=e.2.2.1) (by omega)]
 simp
theorem Xt: ∀k:Fin 9,∃x,eG (k.val:Int)=some x:=by
 intro k
 match k with
 | ⟨0,_⟩=>exact ⟨_,rfl⟩
 | ⟨1,_⟩=>exact ⟨_,rfl⟩
 | ⟨2,_⟩=>exact ⟨_,rfl⟩
 | ⟨3,_⟩=>exact ⟨_,rfl⟩
 | ⟨4,_⟩=>exact ⟨_,rfl⟩
 | ⟨5,_⟩=>exact ⟨_,rfl⟩
 | ⟨6,_⟩=>exact ⟨_,rfl⟩
 | ⟨7,_⟩=>exact ⟨_,rfl⟩
 | ⟨8,_⟩=>exact ⟨_,rfl⟩
theorem Lx (z:ByteArray): ∃r,fD z=some r:=by
 obtain ⟨o,e,h⟩:=cT (f:=kg z) (fun i s=>s=(i:Int)) (fun o=> ∀s,o≠ .nxt s) 9 (fun i s hi hI=>by
  subst hI
  unfold kg
  by_cases h1:i<9
  ·obtain ⟨x,ex⟩:=Xt ⟨i,h1⟩
   have ex:eG (i:Int)=some x:=ex
   rw[if_pos (decide_eq_true (by omega)),ex]
   simp only[aa]
   by_cases c:(x==z)=true
   ·rw[if_pos c];exact .inr ⟨_,rfl,fun s' h=>(by simp at h),fun s' h=>(by simp at h)⟩
   ·rw[if_neg c];exact .inl ⟨h1,_,rfl,af (by omega)⟩
  ·obtain rfl:i=9:=by omega
   rw[if_neg (by decide)];exact .inr ⟨_,rfl,fun s' h=>(by simp at h),fun s' h=>(by simp at h)⟩) (s:=(0:Int)) rfl (dC _ (by omega))
 unfold fD
 rw[e]
 cases o with
 | nxt s=>exact absurd rfl (h s)
 | brk s=>exact ⟨_,rfl⟩
 | ret r=>exact ⟨_,rfl⟩
theorem OW: ∀k:Fin 3,fD (mkB [UInt8.ofNat (97+k.val)])=some (2*(k.val:Int),true):=by
 intro k
 have hf:=dC 100 (by omega)
 obtain ⟨n,hn⟩: ∃n,aX=n+6:=⟨aX - 6,by omega⟩
 unfold fD
 rw[hn]
 match k with
 | ⟨0,_⟩=>rfl
 | ⟨1,_⟩=>rfl
 | ⟨2,_⟩=>rfl
theorem ZB: ∀d:Fin 5,IntKind.i64.wrap ((IntKind.i64.wrap (((UInt8.ofNat (48+d.val)).toNat:Nat):Int)) - 48)=(d.val:Int):=by decide
theorem ZR: ∀d:Fin 3,IntKind.i64.wrap ((IntKind.i64.wrap (((UInt8.ofNat (97+d.val)).toNat:Nat):Int)) - 97)=(d.val:Int):=by decide
theorem ZS: ∀d:Fin 3,PK (2*(d.val:Int)) 2=(d.val:Int):=by decide
def Yh (s:List UInt8) (r:EgT×Bool):Prop:=r=((0,0,0,0),false)\/r.2=true/\edOk r.1/\s=sk r.1
theorem Tq {e:EgT} {s:List UInt8} (h:s≠ []): ∃r:EgT×Bool,(if (if edOk e then mkB (sk e) else mkB []) !=mkB s then (some ((0,0,0,0),false)) else (some (e,true)):Option (EgT×Bool))=some r/\Yh s r:=by
 by_cases k:edOk e
 ·rw[if_pos k]
  by_cases c:mkB (sk e)=mkB s
  ·rw[if_neg (by simp[c])];exact ⟨_,rfl,.inr ⟨rfl,k,(xl c).symm⟩⟩
  ·rw[if_pos (by simpa using c)];exact ⟨_,rfl,.inl rfl⟩
 ·rw[if_neg k,if_pos (by
   rw[bne_iff_ne]
   exact fun c=>h (xl c).symm)]
  exact ⟨_,rfl,.inl rfl⟩
theorem ZT (l:List UInt8) (hl:l.length<=1000000): ∃r,fT (mkB l)=some r/\Yh l r:=by
 unfold fT
 have ec:gX (mkB l) 58=some ((oT 58 [] l).map mkB):=we l 58 hl
 rw[ec];simp only[aa]
 rcases tg 58 l with k | ⟨a,r,rfl,k⟩
 ·rw[nR k];exact ⟨_,rfl,.inl rfl⟩
 ·rw[qo k]
  rcases tg 58 r with k2 | ⟨b,q,rfl,k2⟩
  ·rw[nR k2]
   simp only[List.nil_append,List.map_cons,List.map_nil]
   have g0:aQ [mkB a,mkB r] 0=some (mkB a):=rfl
   have g1:aQ [mkB a,mkB r] 1=some (mkB r):=rfl
   rw[if_neg (by simp)]
   simp only[g0,g1,aa,bP]
   by_cases h3:r.length=3
   ·obtain ⟨x,y,z,rfl⟩:=YS h3
    obtain ⟨n,en,-,-⟩:=qn (mkB a)
    obtain ⟨t,et⟩:=Lx (mkB [y])
    have s1:qY (mkB [x,y,z]) 1 2=some (mkB [y]):=slB (l:=[x,y,z]) (a:=1) (b:=2) (by decide) (by simp)
    have a0:jG (mkB [x,y,z]) 0=some ((x.toNat:Nat):Int):=atB (l:=[x,y,z]) (i:=0) (by simp)
    have a2:jG (mkB [x,y,z]) 2=some ((z.toNat:Nat):Int):=atB (l:=[x,y,z]) (i:=2) (by simp)
    rw[if_neg (by simp),en,s1]
    simp only[aa]
    rw[et,a0,a2]
    simp only[aa]
    rw[OS]
    simp only[aa]
    exact Tq (by simp)
   ·rw[if_pos (by rw[bne_iff_ne];omega)];exact ⟨_,rfl,.inl rfl⟩
  ·rw[qo k2]
   have:=RS 58 [] q
   rw[if_pos (by rw[bne_iff_ne];simp only[List.length_map,ak];omega)]
   exact ⟨_,rfl,.inl rfl⟩
theorem ZU (l:List UInt8) (hl:l.length<=1000000): ∃r,fZ (mkB l)=some r/\Yh l r:=by
 unfold fZ
 rcases tg 58 l with k | ⟨a,r,rfl,k⟩
 ·have ec:cS (mkB l) (⟨#[58]⟩)=some (mkB l,mkB [],false):=RR hl k
  rw[ec];exact ⟨_,rfl,.inl rfl⟩
 ·have ec:cS (mkB (a++58::r)) (⟨#[58]⟩)=some (mkB a,mkB r,true):=Tm hl k
  rw[ec]
  simp only[aa,bP]
  by_cases h3:r.length=3
  ·obtain ⟨x,y,z,rfl⟩:=YS h3
   obtain ⟨n,-,en,-⟩:=qn (mkB a)
   have a0:jG (mkB [x,y,z]) 0=some ((x.toNat:Nat):Int):=atB (l:=[x,y,z]) (i:=0) (by simp)
   have a1:jG (mkB [x,y,z]) 1=some ((y.toNat:Nat):Int):=atB (l:=[x,y,z]) (i:=1) (by simp)
   have a2:jG (mkB [x,y,z]) 2=some ((z.toNat:Nat):Int):=atB (l:=[x,y,z]) (i:=2) (by simp)
   rw[if_neg (by simp),en,a0,a1,a2]
   simp only[aa]
   rw[OT]
   simp only[aa]
   exact Tq (by simp)
  ·rw[if_pos (by rw[bne_iff_ne];omega)];exact ⟨_,rfl,.inl rfl⟩
theorem VK {e:EgT} (h:edOk e):fT (mkB (sk e))=some (e,true)/\fZ (mkB (sk e))=some (e,true):=by
 have hn:=tc h
 have he:=Iz h
 have hl:(sk e).length<=1000000:=by omega
 obtain ⟨h1,h2,h3,h4⟩:=id h
 obtain ⟨p1,p2⟩:=Ei (n:=e.1) (by omega)
 have k:(58:UInt8)∉Lib.itoa e.1:=To (by decide) (by decide)
 obtain ⟨f,hf,ef⟩: ∃k:Nat,k<5/\e.2.1=(k:Int):=⟨e.2.1.toNat,by omega,by omega⟩
 obtain ⟨t,ht,et⟩: ∃k:Nat,k<5/\e.2.2.1=(k:Int):=⟨e.2.2.1.toNat,by omega,by omega⟩
 obtain ⟨q,hq,eq⟩: ∃k:Nat,k<3/\e.2.2.2=(k:Int):=⟨e.2.2.2.toNat,by omega,by omega⟩
 have hx:sk e=Lib.itoa e.1++58:: [UInt8.ofNat (48+f),UInt8.ofNat (97+q),UInt8.ofNat (48+t)]:=by
  rw[he,ef,et,eq];rfl
 have k2:(58:UInt8) ∉ [UInt8.ofNat (48+f),UInt8.ofNat (97+q),UInt8.ofNat (48+t)]:=by
  have e1:(UInt8.ofNat (48+f)).toNat=48+f:=by simp;omega
  have e2:(UInt8.ofNat (97+q)).toNat=97+q:=by simp;omega
  have e3:(UInt8.ofNat (48+t)).toNat=48+t:=by simp;omega
  have e4:(58:UInt8).toNat=58:=rfl
  intro hm
  simp only[List.mem_cons,List.not_mem_nil,or_false] at hm
  rcases hm with hm | hm | hm <;> (have:=congrArg UInt8.toNat hm;omega)
 have a0:jG (mkB [UInt8.ofNat (48+f),UInt8.ofNat (97+q),UInt8.ofNat (48+t)]) 0=some (((UInt8.ofNat (48+f)).toNat:Nat):Int):=atB (l:=[UInt8.ofNat (48+f),UInt8.ofNat (97+q),UInt8.ofNat (48+t)]) (i:=0) (by simp)
 have a1:jG (mkB [UInt8.ofNat (48+f),UInt8.ofNat (97+q),UInt8.ofNat (48+t)]) 1=some (((UInt8.ofNat (97+q)).toNat:Nat):Int):=atB (l:=[UInt8.ofNat (48+f),UInt8.ofNat (97+q),UInt8.ofNat (48+t)]) (i:=1) (by simp)
 have a2:jG (mkB [UInt8.ofNat (48+f),UInt8.ofNat (97+q),UInt8.ofNat (48+t)]) 2=some (((UInt8.ofNat (48+t)).toNat:Nat):Int):=atB (l:=[UInt8.ofNat (48+f),UInt8.ofNat (97+q),UInt8.ofNat (48+t)]) (i:=2) (by simp)
 have s1:qY (mkB [UInt8.ofNat (48+f),UInt8.ofNat (97+q),UInt8.ofNat (48+t)]) 1 2=some (mkB [UInt8.ofNat (97+q)]):=slB (l:=[UInt8.ofNat (48+f),UInt8.ofNat (97+q),UInt8.ofNat (48+t)]) (a:=1) (b:=2) (by decide) (by simp)
 have v1:=ZB ⟨f,hf⟩
 have v2:=ZB ⟨t,ht⟩
 have v3:=ZR ⟨q,hq⟩
 have v4:=ZS ⟨q,hq⟩
 have v5:=OW ⟨q,hq⟩
 simp only at v1 v2 v3 v4 v5
 have ee:(e.1,(f:Int),(t:Int),(q:Int))=e:=by rw[<-ef,<-et,<-eq]
 constructor
 ·unfold fT
  have ec:gX (mkB (sk e)) 58=some ((oT 58 [] (sk e)).map mkB):=we _ 58 hl
  rw[ec];simp only[aa]
  rw[hx,qo k,nR k2]
  simp only[List.nil_append,List.map_cons,List.map_nil]
  rw[if_neg (by simp)]
  have g0: ∀a b:ByteArray,aQ [a,b] 0=some a:=fun a b=>rfl
  have g1: ∀a b:ByteArray,aQ [a,b] 1=some b:=fun a b=>rfl
  simp only[g0,g1,aa,bP]
  rw[if_neg (by simp),p1,s1]
  simp only[aa]
  rw[v5,a0,a2]
  simp only[aa]
  rw[v1,v2,v4,ee,OS,if_pos h,<-hx]
  simp
 ·unfold fZ
  have ec:cS (mkB (sk e)) (⟨#[58]⟩)=some (mkB (Lib.itoa e.1),mkB [UInt8.ofNat (48+f),UInt8.ofNat (97+q),UInt8.ofNat (48+t)],true):=by
   rw[hx] at hl⊢
   exact Tm hl k
  rw[ec]
  simp only[aa,bP]
  rw[if_neg (by simp),p2,a0,a1,a2]
  simp only[aa]
  rw[v1,v2,v3,ee,OT,if_pos h]
  simp
theorem OX (l:List UInt8) (hl:l.length<=1000000): ∃r,fT (mkB l)=some r/\fZ (mkB l)=some r/\Yh l r:=by
 by_cases h: ∃e:EgT,edOk e/\l=sk e
 ·obtain ⟨e,he,rfl⟩:=h
  exact ⟨_,(VK he).1,(VK he).2,.inr ⟨rfl,he,rfl⟩⟩
 ·obtain ⟨r1,e1,k1⟩:=ZT l hl
  obtain ⟨r2,e2,k2⟩:=ZU l hl
  rcases k1 with rfl | ⟨-,a,b⟩
  ·rcases k2 with rfl | ⟨-,a,b⟩
   ·exact ⟨_,e1,e2,.inl rfl⟩
   ·exact absurd ⟨_,a,b⟩ h
  ·exact absurd ⟨_,a,b⟩ h
end D
namespace D
open Go.RowKit
theorem RU {e:EgT} (h:edOk e) {c:UInt8} (h1:c.toNat≠45) (h2:c.toNat<48):c∉sk e:=by
 obtain ⟨-,-,-,h4⟩:=id h
 rw[Iz h]
 intro hm
 rcases aI hm with hm | hm
 ·exact To h1 (.inl h2) hm
 ·have e1:(UInt8.ofNat (48+e.2.1.toNat)).toNat=48+e.2.1.toNat:=by have:=h.2.1;simp;omega
  have e2:(UInt8.ofNat (97+e.2.2.2.toNat)).toNat=97+e.2.2.2.toNat:=by simp;omega
  have e3:(UInt8.ofNat (48+e.2.2.1.toNat)).toNat=48+e.2.2.1.toNat:=by have:=h.2.2.1;simp;omega
  have e4:(58:UInt8).toNat=58:=rfl
  simp only[List.mem_cons,List.not_mem_nil,or_false] at hm
  rcases hm with hm | hm | hm | hm <;> (have:=congrArg UInt8.toNat hm;omega)
theorem JY {c:ChT} (h:edOk c.2) {b:UInt8} (h1:b.toNat≠45) (h2:b.toNat<48) (h3:b.toNat≠43):b∉oS c:=by
 unfold oS
 intro hm
 rcases aE hm with hm | hm
 ·have:=congrArg UInt8.toNat hm
  split at this
  ·exact h3 this
  ·exact h1 this
 ·exact RU h h1 h2 hm
theorem yh {c:UInt8} : ∀ {r:List (List UInt8)} {x:List UInt8},c∉x->(∀y∈r,c∉y)->oT c [] (x++Lib.joinTail [c] r)=x::r
 | [],x,hx,_=>by
  have:Lib.joinTail [c] [] = []:=by simp[Lib.joinTail]
  rw[this,List.append_nil,nR hx];rfl
 | y::r,x,hx,hr=>by
  have:Lib.joinTail [c] (y::r)=c::(y++Lib.joinTail [c] r):=by simp[Lib.joinTail]
  rw[this,qo hx,yh (hr y (by simp)) fun z hz=>hr z (bj _ hz)];rfl
theorem OY {l:List ChT} (h:y8 l) (h0:l≠ []):oT 32 [] (btx l)=l.map oS:=by
 cases l with
 | nil=>exact absurd rfl h0
 | cons c r =>
  unfold btx
  rw[List.map_cons,Lib.join_cons]
  refine yh (JY (h c (by simp)) (by decide) (by decide) (by decide)) fun y hy=>?_
  obtain ⟨d,hd,rfl⟩:=List.mem_map.1 hy
  exact JY (h d (bj _ hd)) (by decide) (by decide) (by decide)
theorem OZ:btx [] = []:=by simp[btx,Lib.join_nil]
theorem Ts {l:List ChT} (h0:l≠ []):btx l≠ []:=by
 cases l with
 | nil=>exact absurd rfl h0
 | cons c r=>unfold btx;rw[List.map_cons,Lib.join_cons];simp[oS]
def Yi (s:List UInt8) (r:(List ChT)×Bool):Prop:=r=([],false)\/r.2=true/\r.1.length<=6/\y8 r.1/\s=btx r.1
theorem O0 {p:List UInt8} (h:1<=p.length):qY (mkB p) 1 (p.length:Int)=some (mkB (p.drop 1)):=by
 have:=slB (l:=p) (a:=1) (b:=p.length) h (aC _)
 rw[List.take_length] at this
 exact this
theorem so (p:List UInt8):(mkB p==(⟨#[]⟩:ByteArray))=decide (p= []):=by
 by_cases h:p= []
 ·subst h;rfl
 ·rw[decide_eq_false h,beq_eq_false_iff_ne]
  intro k
  exact h (xl (b:=[]) k)
open Classical in
theorem Tt {f:List ChT->Option ByteArray} (hf: ∀l,f l=some (if l.length<=6/\y8 l then mkB (btx l) else mkB [])) {b:List ChT} {s:List UInt8} (h:s≠ []): ∃r:(List ChT)×Bool,((f b).bind fun r16=>if r16 !=mkB s then (some (([] :List ChT),false)) else (some (b,true)):Option ((List ChT)×Bool))=some r/\Yi s r:=by
 rw[hf]
 simp only[aa]
 by_cases k:b.length<=6/\y8 b
 ·rw[if_pos k]
  by_cases c:mkB (btx b)=mkB s
  ·rw[if_neg (by simp[c])];exact ⟨_,rfl,.inr ⟨rfl,k.1,k.2,(xl c).symm⟩⟩
  ·rw[if_pos (by simpa using c)];exact ⟨_,rfl,.inl rfl⟩
 ·rw[if_neg k,if_pos (by
   rw[bne_iff_ne]
   exact fun c=>h (xl c).symm)]
  exact ⟨_,rfl,.inl rfl⟩
theorem ZV (l:List UInt8) (hl:l.length<=1000000): ∃r,dH (mkB l)=some r/\(l= [] \/Yi l r):=by
 unfold dH
 by_cases h0:l= []
 ·rw[so,if_pos (decide_eq_true h0)];exact ⟨_,rfl,.inl h0⟩
 rw[so,if_neg (by simpa using h0)]
 have ec:gX (mkB l) 32=some ((oT 32 [] l).map mkB):=we l 32 hl
 rw[ec];simp only[aa]
 obtain ⟨o,e,hQ⟩:=cT (f:=cB ((oT 32 [] l).map mkB)) (fun i s=> ∃b:List ChT,s=((i:Int),b)/\b.length=i) (fun o=>o= .ret (([] :List ChT),false)\/ ∃s,o= .brk s) 7 (fun i s hi hI=>by
  obtain ⟨b,rfl,hb⟩:=hI
  unfold cB
  simp only[]
  by_cases h1:i<((oT 32 [] l).map mkB).length
  ·rw[bJ h1,if_pos rfl]
   by_cases h7:i<=6
   ·rw[if_pos (decide_eq_true (by omega)),aD h1]
    simp only[aa]
    rw[List.length_map] at h1
    have hp:=sn 32 l [] _ (List.getElem_mem h1)
    rw[List.getElem_map]
    generalize (oT 32 [] l)[i] =p at hp⊢
    rw[aG] at hp
    rw[bP]
    by_cases h2:p.length<2
    ·rw[if_pos (decide_eq_true (by omega))]
     exact .inr ⟨_,rfl,fun s' h=>(by simp at h),.inl rfl⟩
    ·rw[if_neg (by simp;omega),O0 (by omega)]
     simp only[aa]
     obtain ⟨r,er,-,-⟩:=OX (p.drop 1) (by rw[aT];omega)
     rw[er]
     simp only[aa]
     have a0:jG (mkB p) 0=some ((p[0].toNat:Nat):Int):=atB (l:=p) (i:=0) (by omega)
     by_cases h3:r.2=true
     ·rw[if_pos h3,a0]
      simp only[aa]
      have hx: ∀z:ChT,cz 40 b [z] =some (b++ [z]):=fun z=>aL (by simp only[ak,aG];omega)
      rw[hx]
      simp only[aa]
      exact .inl ⟨by omega,_,rfl,_,by rw[af (by omega)],by simp;omega⟩
     ·rw[if_neg h3]
      exact .inr ⟨_,rfl,fun s' h=>(by simp at h),.inl rfl⟩
   ·rw[if_neg (by simp;omega)]
    exact .inr ⟨_,rfl,fun s' h=>(by simp at h),.inr ⟨_,rfl⟩⟩
  ·rw[if_neg (by simp only[decide_eq_true_eq];omega)]
   exact .inr ⟨_,rfl,fun s' h=>(by simp at h),.inr ⟨_,rfl⟩⟩) (s:=(0,([] :List ChT))) ⟨[],rfl,rfl⟩ (dC _ (by omega))
 rcases hQ with rfl | ⟨s,rfl⟩
 ·rw[cd e];exact ⟨_,rfl,.inr (.inl rfl)⟩
 ·rw[aw e]
  obtain ⟨r,er,k⟩:=Tt (f:=cP) (fun l=>(tf l).1) (b:=s.2) h0
  exact ⟨r,er,.inr k⟩
theorem ZW (l:List UInt8) (hl:l.length<=1000000): ∃r,dI (mkB l)=some r/\(l= [] \/Yi l r):=by
 unfold dI
 by_cases h0:l= []
 ·rw[so,if_pos (decide_eq_true h0)];exact ⟨_,rfl,.inl h0⟩
 rw[so,if_neg (by simpa using h0)]
 have ec:cF (mkB l) (⟨#[32]⟩)=some ((oT 32 [] l).map mkB):=Ep l 32 hl
 rw[ec];simp only[aa]
 have hn:=El 32 l []
 obtain ⟨o,e,hQ⟩:=cT (f:=cG ((oT 32 [] l).map mkB)) (fun i s=> ∃b:List ChT,s=((i:Int),b)/\b.length=i) (fun o=>o= .ret (([] :List ChT),false)\/ ∃s,o= .brk s) (oT 32 [] l).length (fun i s hi hI=>by
  obtain ⟨b,rfl,hb⟩:=hI
  unfold cG
  simp only[]
  by_cases h1:i<((oT 32 [] l).map mkB).length
  ·rw[bJ h1,if_pos rfl,aD h1]
   simp only[aa]
   rw[List.length_map] at h1
   have hp:=sn 32 l [] _ (List.getElem_mem h1)
   rw[List.getElem_map]
   generalize (oT 32 [] l)[i] =p at hp⊢
   rw[aG] at hp
   rw[so,bP]
   by_cases h2:p= []
   ·rw[if_pos (decide_eq_true h2)]
    exact .inr ⟨_,rfl,fun s' h=>(by simp at h),.inl rfl⟩
   ·have h2':1<=p.length:=List.length_pos_iff.2 h2
    rw[if_neg (by simpa using h2),O0 h2']
    simp only[aa]
    obtain ⟨r,-,er,-⟩:=OX (p.drop 1) (by rw[aT];omega)
    rw[er]
    simp only[aa]
    have a0:jG (mkB p) 0=some ((p[0].toNat:Nat):Int):=atB (l:=p) (i:=0) (by omega)
    by_cases h3:r.2=true
    ·rw[if_pos h3,a0]
     simp only[aa]
     have hx: ∀z:ChT,cz 40 b [z] =some (b++ [z]):=fun z=>aL (by simp only[ak,aG];omega)
     rw[hx]
     simp only[aa]
     exact .inl ⟨by omega,_,rfl,_,by rw[af (by omega)],by simp;omega⟩
    ·rw[if_neg h3]
     exact .inr ⟨_,rfl,fun s' h=>(by simp at h),.inl rfl⟩
  ·rw[if_neg (by simp only[decide_eq_true_eq];omega)]
   exact .inr ⟨_,rfl,fun s' h=>(by simp at h),.inr ⟨_,rfl⟩⟩) (s:=(0,([] :List ChT))) ⟨[],rfl,rfl⟩ (dC _ (by omega))
 rcases hQ with rfl | ⟨s,rfl⟩
 ·rw[cd e];exact ⟨_,rfl,.inr (.inl rfl)⟩
 ·rw[aw e]
  obtain ⟨r,er,k⟩:=Tt (f:=dP) (fun l=>(tf l).2) (b:=s.2) h0
  exact ⟨r,er,.inr k⟩
theorem O1 {L:List ChT} (h:y8 L) (h6:L.length<=6) {i:Nat} (hi:i<L.length):cB ((L.map oS).map mkB) ((i:Int),L.take i)=some (.nxt (((i+1:Nat):Int),L.take (i+1)))/\cG ((L.map oS).map mkB) ((i:Int),L.take i)=some (.nxt (((i+1:Nat):Int),L.take (i+1))):=by
 have hl:i<((L.map oS).map mkB).length:=by rw[List.length_map,List.length_map];exact hi
 have hk:edOk L[i].2:=h _ (List.getElem_mem hi)
 have hp:=tc hk
 have eg:((L.map oS).map mkB)[i] =mkB (oS L[i]):=by simp
 obtain ⟨p1,p2⟩:=VK hk
 have hs:(oS L[i]).length=(sk L[i].2).length+1:=by unfold oS;rw[ak]
 have h4:4<=(sk L[i].2).length:=by rw[Iz hk];simp
 have ed:(oS L[i]).drop 1=sk L[i].2:=rfl
 have a0:jG (mkB (oS L[i])) 0=some (((if L[i].1 then (43:UInt8) else 45).toNat:Nat):Int):=atB (l:=oS L[i]) (i:=0) (by omega)
 have hz:((((if L[i].1 then (43:UInt8) else 45).toNat:Nat):Int)==43)=L[i].1:=by
  generalize L[i].1=t
  cases t <;> rfl
 have hx: ∀z:ChT,cz 40 (L.take i) [z] =some (L.take i++ [z]):=fun z=>aL (by rw[aA];simp only[ak,aG];omega)
 have et:=List.take_succ_eq_append_getElem hi
 have st:=O0 (p:=oS L[i]) (by omega)
 constructor
 ·unfold cB
  simp only[]
  rw[bJ hl,if_pos rfl,if_pos (decide_eq_true (by omega)),aD hl,eg]
  simp only[aa]
  rw[bP,if_neg (by simp;omega),st,ed]
  simp only[aa]
  rw[p1]
  simp only[aa]
  rw[if_pos trivial,a0]
  simp only[aa]
  rw[hz,hx,af (by omega),et];rfl
 ·unfold cG
  simp only[]
  rw[bJ hl,if_pos rfl,aD hl,eg]
  simp only[aa]
  rw[so,if_neg (by simp[oS]),bP,st,ed]
  simp only[aa]
  rw[p2]
  simp only[aa]
  rw[if_pos trivial,a0]
  simp only[aa]
  rw[hz,hx,af (by omega),et];rfl
theorem Xu {L:List ChT} (h:y8 L) (h6:L.length<=6):dH (mkB (btx L))=some (L,true)/\dI (mkB (btx L))=some (L,true):=by
 by_cases h0:L= []
 ·subst h0
  unfold dH dI
  rw[OZ]
  exact ⟨rfl,rfl⟩
 have hn:=Ek h
 have hl:(btx L).length<=1000000:=by omega
 have eb: ∀s i:Option ByteArray,True:=fun _ _=>trivial
 obtain ⟨b1,b2⟩:=tf L
 rw[if_pos ⟨h6,h⟩] at b1 b2
 have hs:=bq (f:=cB ((L.map oS).map mkB)) (fun i=>((i:Int),L.take i)) L.length (fun i hi=>(O1 h h6 hi).1) (by
  unfold cB
  simp only[]
  rw[if_neg (by simp)]) (dC _ (by omega))
 have hi:=bq (f:=cG ((L.map oS).map mkB)) (fun i=>((i:Int),L.take i)) L.length (fun i hi=>(O1 h h6 hi).2) (by
  unfold cG
  simp only[]
  rw[if_neg (by simp)]) (dC _ (by omega))
 rw[List.take_length] at hs hi
 constructor
 ·unfold dH
  have ec:gX (mkB (btx L)) 32=some ((oT 32 [] (btx L)).map mkB):=we _ 32 hl
  rw[so,if_neg (by simpa using Ts h0),ec,OY h h0]
  simp only[aa]
  have hs:ax (cB ((L.map oS).map mkB)) aX (0,([] :List ChT))=_:=hs
  rw[aw hs]
  simp only[]
  rw[b1]
  simp
 ·unfold dI
  have ec:cF (mkB (btx L)) (⟨#[32]⟩)=some ((oT 32 [] (btx L)).map mkB):=Ep _ 32 hl
  rw[so,if_neg (by simpa using Ts h0),ec,OY h h0]
  simp only[aa]
  have hi:ax (cG ((L.map oS).map mkB)) aX (0,([] :List ChT))=_:=hi
  rw[aw hi]
  simp only[]
  rw[b2]
  simp
theorem VL (l:List UInt8) (hl:l.length<=1000000): ∃r,dH (mkB l)=some r/\dI (mkB l)=some r/\Yi l r:=by
 by_cases h: ∃L:List ChT,L.length<=6/\y8 L/\l=btx L
 ·obtain ⟨L,h6,hk,rfl⟩:=h
  exact ⟨_,(Xu hk h6).1,(Xu hk h6).2,.inr ⟨rfl,h6,hk,rfl⟩⟩
 ·have hne:l≠ []:=fun e=>h ⟨[],by simp,fun c hc=>by simp at hc,by rw[e,OZ]⟩
  obtain ⟨r1,e1,k1⟩:=ZV l hl
  obtain ⟨r2,e2,k2⟩:=ZW l hl
  rcases k1 with k | rfl | ⟨-,a,b,c⟩
  ·exact absurd k hne
  ·rcases k2 with k | rfl | ⟨-,a,b,c⟩
   ·exact absurd k hne
   ·exact ⟨_,e1,e2,.inl rfl⟩
   ·exact absurd ⟨_,a,b,c⟩ h
  ·exact absurd ⟨_,a,b,c⟩ h
end D
namespace D
open Go.RowKit
def recT (v:Int) (b:List ChT):List UInt8:=((eH v b).getD ByteArray.empty).data.toList
theorem Xv (v:Int) (b:List ChT):eH v b=some (mkB (recT v b))/\gu v b=some (mkB (recT v b))/\(recT v b).length<=1000:=by
 obtain ⟨r,e1,e2,h⟩:=A9 v b
 have e:mkB (recT v b)=r:=by unfold recT;rw[e1];exact Em r
 rw[<-e,bP] at h
 rw[e]
 exact ⟨e1,e2,h⟩
def totL (r:List Int) (q:List (List ChT)):Nat->Nat
 | 0=>0
 | i+1=>totL r q i+(recT (nth r (i:Int)) (nth q (i:Int))).length
theorem JZ {r:List Int} {q:List (List ChT)} (h:q.length=r.length) (x:List Int) (y:List (List ChT)): ∀i,i<=r.length->totL (r++x) (q++y) i=totL r q i
 | 0,_=>rfl
 | i+1,hi=>by
  rw[totL,totL,JZ h x y i (by omega),ij (by omega) (by omega),ij (by omega) (by omega)]
theorem O2 {r:List Int} {q:List (List ChT)} (h:q.length=r.length) (v:Int) (b:List ChT):totL (r++ [v]) (q++ [b]) (r++ [v]).length=totL r q r.length+(recT v b).length:=by
 have e1:nth (r++ [v]) ((r.length:Nat):Int)=v:=by rw[bZ (by simp)];simp
 have e2:nth (q++ [b]) ((r.length:Nat):Int)=b:=by rw[<-h,bZ (by simp)];simp
 rw[al,ak,aG,Nat.zero_add,totL,JZ h _ _ _ (aC _),e1,e2]
theorem O3 (l:List UInt8) (hl:l.length<=1000000): ∃r:Int×List ChT×Bool,jg (mkB l)=some r/\jl (mkB l)=some r/\r.2.1.length<=6/\(-999999999<=r.1/\r.1<=999999999)/\(r.2.2=true->recT r.1 r.2.1=l):=by
 unfold jg jl
 have ec:gX (mkB l) 59=some ((oT 59 [] l).map mkB):=we l 59 hl
 have ei:cF (mkB l) (⟨#[59]⟩)=some ((oT 59 [] l).map mkB):=Ep l 59 hl
 rw[ec,ei];simp only[aa]
 by_cases h3:(oT 59 [] l).length=3
 ·have hp:=sn 59 l []
  obtain ⟨a,b,c,e⟩:=YS h3
  rw[e] at hp⊢
  have hb:=hp b (by simp)
  rw[aG] at hb
  simp only[List.map_cons,List.map_nil]
  have g0:aQ [mkB a,mkB b,mkB c] 0=some (mkB a):=rfl
  have g1:aQ [mkB a,mkB b,mkB c] 1=some (mkB b):=rfl
  rw[if_neg (by simp),if_neg (by simp)]
  obtain ⟨v,v1,v2,kv⟩:=qn (mkB a)
  obtain ⟨q,q1,q2,k⟩:=VL b (by omega)
  obtain ⟨t,t1,t2,-⟩:=A9 v.1 q.1
  have hq:q.1.length<=6:=by
   rcases k with rfl | ⟨-,k,-⟩
   ·simp
   ·exact k
  have hv: -999999999<=v.1/\v.1<=999999999:=by
   rcases kv with ⟨-,k,-⟩ | rfl
   ·exact k
   ·decide
  simp only[g0,g1,v1,v2,q1,q2,t1,t2,aa]
  by_cases c1:v.2=true
  ·by_cases c2:q.2=true
   ·by_cases c3:(t !=mkB l)=true
    ·simp only[if_pos c1,if_pos c2,if_pos c3];exact ⟨_,rfl,rfl,by simp,by decide,fun c=>by cases c⟩
    ·simp only[if_pos c1,if_pos c2,if_neg c3];exact ⟨_,rfl,rfl,hq,hv,fun _=>by
      have e:t=mkB l:=by simpa using c3
      have e2:=(Xv v.1 q.1).1
      rw[t1,e] at e2
      exact (xl (ae e2)).symm⟩
   ·simp only[if_pos c1,if_neg c2];exact ⟨_,rfl,rfl,by simp,by decide,fun c=>by cases c⟩
  ·simp only[if_neg c1];exact ⟨_,rfl,rfl,by simp,by decide,fun c=>by cases c⟩
 ·have k:(((List.map mkB (oT 59 [] l)).length:Int) !=3)=true:=by
   rw[bne_iff_ne,List.length_map];omega
  rw[if_pos k,if_pos k]
  exact ⟨_,rfl,rfl,by simp,by decide,fun c=>by cases c⟩
def ScOk (vs:List Int) (bs:List (List ChT)):Prop:=bs.length=vs.length/\(∀b∈bs,b.length<=6)/\ ∀v∈vs,(-999999999<=v/\v<=999999999)/\v<=nth vs ((vs.length:Int) - 1)
theorem RV (vs:List Int) (v:Int):nth (vs++ [v]) (((vs++ [v]).length:Int) - 1)=v:=by
 have e:(((vs++ [v]).length:Int) - 1)=((vs.length:Nat):Int):=by simp
 rw[e,bZ (by simp)];simp
theorem ScOk.push {vs:List Int} {bs:List (List ChT)} (h:ScOk vs bs) {v:Int} {b:List ChT} (hb:b.length<=6) (hv: -999999999<=v/\v<=999999999) (hx:0<vs.length->v=IntKind.i64.wrap (nth vs ((vs.length:Int) - 1)+1)):ScOk (vs++ [v]) (bs++ [b]):=by
 obtain ⟨h1,h2,h3⟩:=h
 refine ⟨by simp;omega,fun d hd=>?_,fun d hd=>?_⟩
 ·rcases aI hd with q | q
  ·exact h2 d q
  ·obtain rfl:=ay q;exact hb
 ·rw[RV]
  rcases aI hd with q | q
  ·have h0:0<vs.length:=List.length_pos_of_mem q
   obtain ⟨k1,k2⟩:=h3 d q
   obtain ⟨k3,-⟩:=h3 _ (ct (xs:=vs) (i:=(vs.length:Int) - 1) (by omega) (by omega))
   have:=hx h0
   rw[fa (by omega) (by omega)] at this
   exact ⟨k1,by omega⟩
  ·obtain rfl:=ay q;exact ⟨hv,Int.le_refl _⟩
theorem Er {l:List UInt8} (hl:l.length<=4000) {vs:List Int} {bs:List (List ChT)} {u:Int} : ∀(a r:List UInt8) (i k:Nat),(10:UInt8)∉a->l.drop i=a++r->i<=l.length->ax (bA (mkB l)) (k+a.length) (vs,bs,u,(i:Int))=ax (bA (mkB l)) k (vs,bs,u,((i+a.length:Nat):Int))
 | [],r,i,k,_,_,_=>rfl
 | x::a,r,i,k,hx,e,hi=>by
  have h1:i<l.length:=by
   have:=congrArg List.length e
   rw[aT,al,ak] at this;omega
  have e0:=List.drop_eq_getElem_cons h1
  rw[e0,List.cons_append] at e
  obtain ⟨e1,e2⟩:=List.cons.inj e
  have hn:x.toNat≠10:=fun q=>hx (by
   have:x=10:=UInt8.toNat_inj.1 q
   rw[this];simp)
  have st:bA (mkB l) (vs,bs,u,(i:Int))=some (.nxt (vs,bs,u,((i+1:Nat):Int))):=by
   unfold bA
   simp only[]
   rw[bP,bJ h1,if_pos rfl,if_pos (decide_eq_true (by omega)),atB h1,e1]
   simp only[aa]
   rw[if_pos (by rw[bne_iff_ne];omega),af (by omega)];rfl
  rw[ak,show k+(a.length+1)=(k+a.length)+1 by omega,ax,st]
  show ax _ (k+a.length) _=_
  rw[Er hl a r (i+1) k (fun q=>hx (bj _ q)) e2 h1,show i+1+a.length=i+(a.length+1) by omega]
theorem VM {l:List UInt8} (hl:l.length<=4000): ∀(m p:Nat) (vs:List Int) (bs:List (List ChT)),l.length - p<m->p<=l.length->vs.length<=p->ScOk vs bs->totL vs bs vs.length<=p-> ∃(r:List Int) (q:List (List ChT)) (n:Nat),(∀k,l.length - p+1<=k->(ax (bA (mkB l)) k (vs,bs,(p:Int),(p:Int))=some (.ret (r,q,(n:Int)))\/ ∃i,ax (bA (mkB l)) k (vs,bs,(p:Int),(p:Int))=some (.brk (r,q,(n:Int),i)))/\ax (cr (mkB l)) k (vs,bs,(p:Int))=some (.brk (r,q,(n:Int))))/\n<=l.length/\r.length<=n/\ScOk r q/\totL r q r.length<=n:=by
 intro m
 induction m with
 | zero=>intro p vs bs hm;omega
 | succ m ih =>
  intro p vs bs hm hp hv hb ht
  have hbl:=hb.1
  have hsl:qY (mkB l) (p:Int) (l.length:Int)=some (mkB (l.drop p)):=by
   rw[slB hp (aC _),List.take_length]
  rcases tg 10 (l.drop p) with k | ⟨a,t,e,k⟩
  ·refine ⟨vs,bs,p,fun j hj=>⟨.inr ⟨(l.length:Int),?_⟩,?_⟩,hp,hv,hb,ht⟩
   ·have hd:(l.drop p).length=l.length - p:=aT ..
    obtain ⟨j,rfl⟩: ∃j',j=(j'+1)+(l.drop p).length:=⟨j - 1 - (l.length - p),by omega⟩
    rw[Er hl (l.drop p) [] p (j+1) k (by simp) hp,ax,hd,show p+(l.length - p)=l.length by omega]
    have:bA (mkB l) (vs,bs,(p:Int),(l.length:Int))=some (.brk (vs,bs,(p:Int),(l.length:Int))):=by
     unfold bA
     simp only[]
     rw[bP,if_neg (by simp)]
    rw[this]
   ·obtain ⟨j,rfl⟩: ∃j',j=j'+1:=⟨j - 1,by omega⟩
    have:cr (mkB l) (vs,bs,(p:Int))=some (.brk (vs,bs,(p:Int))):=by
     unfold cr
     simp only[]
     have ei:eP (mkB (l.drop p)) 10=some (-1):=by
      show some (Lib.indexByte _ 10)=_
      rw[eW,JX k]
     rw[bP,if_pos (decide_eq_true (by omega)),hsl]
     simp only[aa]
     rw[ei]
     simp only[aa]
     rw[if_pos (by decide)]
    rw[ax,this]
  ·have hlen:(l.drop p).length=l.length - p:=aT ..
   rw[e,al,ak] at hlen
   have hn:p+a.length<l.length:=by omega
   have hx:l[p+a.length] =10:=by
    have:(l.drop p)[a.length]? =some 10:=by rw[e];simp
    rw[List.getElem?_drop,List.getElem?_eq_getElem hn] at this
    exact ae this
   obtain ⟨r,r1,r2,h6,h9,h8⟩:=O3 ((l.take (p+a.length+1)).drop p) (by rw[aT,aA];omega)
   have es:qY (mkB l) (p:Int) ((p+a.length+1:Nat):Int)=some (mkB ((l.take (p+a.length+1)).drop p)):=slB (by omega) (by omega)
   have ei:eP (mkB (l.drop p)) 10=some (a.length:Int):=by
    show some (Lib.indexByte _ 10)=_
    rw[eW,e,Tn k]
   have w1:IntKind.i64.wrap ((IntKind.i64.wrap ((p:Int)+(a.length:Int)))+1)=((p+a.length+1:Nat):Int):=by
    rw[fa (n:=(p:Int)+(a.length:Int)) (by omega) (by omega),fa (by omega) (by omega)];omega
   have w2:IntKind.i64.wrap ((p:Int)+(IntKind.i64.wrap ((a.length:Int)+1)))=((p+a.length+1:Nat):Int):=by
    rw[fa (n:=(a.length:Int)+1) (by omega) (by omega),fa (by omega) (by omega)];omega
   have step:(bA (mkB l) (vs,bs,(p:Int),((p+a.length:Nat):Int))=some (.ret (vs,bs,(p:Int)))/\cr (mkB l) (vs,bs,(p:Int))=some (.brk (vs,bs,(p:Int))))\/(bA (mkB l) (vs,bs,(p:Int),((p+a.length:Nat):Int))=some (.nxt (vs++ [r.1],bs++ [r.2.1],((p+a.length+1:Nat):Int),((p+a.length+1:Nat):Int)))/\cr (mkB l) (vs,bs,(p:Int))=some (.nxt (vs++ [r.1],bs++ [r.2.1],((p+a.length+1:Nat):Int)))/\(0<vs.length->r.1=IntKind.i64.wrap (nth vs ((vs.length:Int) - 1)+1))/\r.2.2=true):=by
    have x1:cz 8 vs [r.1] =some (vs++ [r.1]):=aL (by simp only[ak,aG];omega)
    have x2:cz 24 bs [r.2.1] =some (bs++ [r.2.1]):=aL (by simp only[ak,aG];omega)
    unfold bA cr
    simp only[]
    rw[bP,bJ hn,if_pos rfl,if_pos (decide_eq_true (by omega)),if_pos (decide_eq_true (by omega)),atB hn,hx,hsl]
    simp only[aa]
    rw[if_neg (by decide),ei,af (show p+a.length<9223372036854775807 by omega),es]
    simp only[aa]
    rw[r1,if_neg (by simp),w1,w2,es]
    simp only[aa]
    rw[r2]
    simp only[aa]
    by_cases c1:r.2.2=true
    ·rw[if_pos c1,if_pos c1]
     by_cases c2:decide ((vs.length:Int)>0)=true
     ·rw[if_pos c2,if_pos c2]
      have h0:0<vs.length:=by simpa using c2
      rw[pD (by omega),aF (xs:=vs) (by omega) (by omega)]
      simp only[aa]
      by_cases c3:(r.1 !=IntKind.i64.wrap (nth vs ((vs.length:Int) - 1)+1))=true
      ·rw[if_pos c3,if_pos c3];exact .inl ⟨rfl,rfl⟩
      ·rw[if_neg c3,if_neg c3,x1,x2];exact .inr ⟨rfl,rfl,(fun _=>by simpa using c3),c1⟩
     ·rw[if_neg c2,if_neg c2,x1,x2];exact .inr ⟨rfl,rfl,(fun h=>absurd (decide_eq_true (show (vs.length:Int)>0 by omega)) c2),c1⟩
    ·rw[if_neg c1,if_neg c1];exact .inl ⟨rfl,rfl⟩
   rcases step with ⟨s1,s2⟩ | ⟨s1,s2,s3,s4⟩
   ·refine ⟨vs,bs,p,fun j hj=>⟨.inl ?_,?_⟩,hp,hv,hb,ht⟩
    ·obtain ⟨j,rfl⟩: ∃j',j=(j'+1)+a.length:=⟨j - 1 - a.length,by omega⟩
     rw[Er hl a (10::t) p (j+1) k e hp,ax,s1]
    ·obtain ⟨j,rfl⟩: ∃j',j=j'+1:=⟨j - 1,by omega⟩
     rw[ax,s2]
   ·have hT:totL (vs++ [r.1]) (bs++ [r.2.1]) (vs++ [r.1]).length<=p+a.length+1:=by
     rw[O2 hbl,h8 s4,aT,aA];omega
    obtain ⟨R,Q,n,h1,h2,h3,h4⟩:=ih (p+a.length+1) (vs++ [r.1]) (bs++ [r.2.1]) (by omega) (by omega) (by simp;omega) (hb.push h6 h9 s3) hT
    refine ⟨R,Q,n,fun j hj=>⟨?_,?_⟩,h2,h3,h4⟩
    ·obtain ⟨j,rfl⟩: ∃j',j=(j'+1)+a.length:=⟨j - 1 - a.length,by omega⟩
     rw[Er hl a (10::t) p (j+1) k e hp,ax,s1]
     exact (h1 j (by omega)).1
    ·obtain ⟨j,rfl⟩: ∃j',j=j'+1:=⟨j - 1,by omega⟩
     rw[ax,s2]
     exact (h1 j (by omega)).2
theorem GM (l:List UInt8) (hl:l.length<=1000000000): ∃(r:List Int) (q:List (List ChT)) (n:Nat),m_s_ScanLog (mkB l)=some (r,q,(n:Int))/\m_i_ScanLog (mkB l)=some (r,q,(n:Int))/\n<=l.length/\r.length<=4000/\ScOk r q/\totL r q r.length<=n:=by
 unfold m_s_ScanLog m_i_ScanLog
 by_cases h:l.length<=4000
 ·obtain ⟨r,q,n,h1,h2,h3,h4⟩:=VM h (l.length+1) 0 [] [] (by omega) (by omega) (by simp) ⟨rfl,fun b hb=>(by cases hb),fun b hb=>(by cases hb)⟩ (Nat.zero_le _)
  obtain ⟨k1,k2⟩:=h1 aX (dC _ (by omega))
  have k2:ax (cr (mkB l)) aX (([] :List Int),([] :List (List ChT)),0)=some (.brk (r,q,(n:Int))):=k2
  refine ⟨r,q,n,?_,?_,h2,by omega,h4⟩
  ·rcases k1 with k1 | ⟨i,k1⟩
   ·have k1:ax (bA (mkB l)) aX (([] :List Int),([] :List (List ChT)),0,0)=_:=k1
    rw[cd k1]
   ·have k1:ax (bA (mkB l)) aX (([] :List Int),([] :List (List ChT)),0,0)=_:=k1
    rw[aw k1]
  ·rw[aw k2]
 ·have hf:=dC 100 (by omega)
  obtain ⟨k,hk⟩: ∃k,aX=k+1:=⟨aX - 1,by omega⟩
  have k1:ax (bA (mkB l)) aX (([] :List Int),([] :List (List ChT)),0,0)=some (.brk ([],[],0,0)):=by
   rw[hk,ax]
   have:bA (mkB l) (([] :List Int),([] :List (List ChT)),0,0)=some (.brk ([],[],0,0)):=by
    unfold bA
    simp only[]
    rw[bP,if_pos (decide_eq_true (by omega)),if_neg (by simp;omega)]
   rw[this]
  have k2:ax (cr (mkB l)) aX (([] :List Int),([] :List (List ChT)),0)=some (.brk ([],[],0)):=by
   rw[hk,ax]
   have:cr (mkB l) (([] :List Int),([] :List (List ChT)),0)=some (.brk ([],[],0)):=by
    unfold cr
    simp only[]
    rw[bP,if_neg (by simp;omega)]
   rw[this]
  rw[aw k1,aw k2]
  exact ⟨[],[],0,rfl,rfl,by omega,by simp,⟨rfl,fun b hb=>(by cases hb),fun b hb=>(by cases hb)⟩,aC _⟩
end D
namespace D
open Go.RowKit
abbrev GrT:=(List Int)×Yq1 
theorem Xw {R:Type} {f:Int->Option (Out R Int)} (N:Nat) (p:Nat->Prop) [DecidablePred p] (r:R) (hN:N<=9223372036854775807)
  (h: ∀i:Nat,i<N->f (i:Int)=some (if p i then .nxt ((i+1:Nat):Int) else .ret r)) (he:f (N:Int)=some (.brk (N:Int))) :
  (ax f aX 0=some (.brk (N:Int))/\ ∀i,i<N->p i)\/(ax f aX 0=some (.ret r)/\ ¬ ∀i,i<N->p i):=by
 obtain ⟨o,e,hq⟩:=cT (f:=f) (fun i s=>s=(i:Int)/\ ∀j:Nat,j<i->p j) (fun o=>(o= .brk (N:Int)/\ ∀i,i<N->p i)\/(o= .ret r/\ ¬ ∀i,i<N->p i)) N (s:=0) (by
  rintro i s hi ⟨rfl,hp⟩
  by_cases hl:i<N
  ·by_cases c:p i
   ·refine .inl ⟨hl,_,by rw[h i hl,if_pos c],rfl,fun j hj=>?_⟩
    by_cases e:j=i
    ·subst e;exact c
    ·exact hp j (by omega)
   ·exact .inr ⟨_,by rw[h i hl,if_neg c],(fun s' e=>by cases e),.inr ⟨rfl,fun hx=>c (hx i hl)⟩⟩
  ·obtain rfl:i=N:=by omega
   exact .inr ⟨_,he,(fun s' e=>by cases e),.inl ⟨rfl,hp⟩⟩) ⟨rfl,by omega⟩ (tV hN)
 rcases hq with ⟨rfl,hq⟩ | ⟨rfl,hq⟩
 ·exact .inl ⟨e,hq⟩
 ·exact .inr ⟨e,hq⟩
structure GOk (g:GrT):Prop where
 n1:1<=g.1.length
 n5:g.1.length<=5
 m:g.2.length<=12
 val: ∀v∈g.1,0<=v/\v<=2
 edge: ∀e∈g.2,(0<=e.2.1/\e.2.1<g.1.length)/\(0<=e.2.2.1/\e.2.2.1<g.1.length)/\0<=e.2.2.2/\e.2.2.2<=2
 asc: ∀i:Nat,i+1<g.2.length->(nth g.2 i).1<(nth g.2 ((i+1:Nat):Int)).1
def edgeP (e:Int×Int×Int×Int) (n:Int):Prop:=(1<=e.1/\e.1<=99)/\(0<=e.2.1/\e.2.1<=n - 1)/\(0<=e.2.2.1/\e.2.2.1<=n - 1)/\0<=e.2.2.2/\e.2.2.2<=2
instance (e n):Decidable (edgeP e n):=by unfold edgeP;infer_instance
theorem Xx (e:Int×Int×Int×Int) {n:Nat} (hn:n<=1048576):jL e (n:Int)=some (decide (edgeP e n)):=by
 unfold jL edgeP
 simp only[GZ,aa,pD (show n<=9223372036854775807 by omega)]
 by_cases c1:1<=e.1/\e.1<=99 <;> by_cases c2:0<=e.2.1/\e.2.1<=(n:Int) - 1 <;> by_cases c3:0<=e.2.2.1/\e.2.2.1<=(n:Int) - 1 <;> simp[c1,c2,c3]
theorem RW (g:GrT) (h1:g.1.length<=1048576) (h2:g.2.length<=1048576): ∃b,cw g=some b/\(b=true->GOk g):=by
 unfold cw
 have k0:=Xw (f:=dN g) g.1.length (fun i=>0<=nth g.1 i/\nth g.1 i<=2) false (by omega) (fun i hi=>by
  unfold dN
  rw[if_pos (by simp;omega),aF (by omega) (by omega)];simp only[aa,GZ,decide_eq_true_eq]
  split
  ·rw[af (by omega)]
  ·rfl) (by unfold dN;rw[if_neg (by simp)])
 have k1:=Xw (f:=c8 g) g.2.length (fun i=>edgeP (nth g.2 i) g.1.length/\(0<i->(nth g.2 ((i:Int) - 1)).1<(nth g.2 i).1)) false (by omega) (fun i hi=>by
  unfold c8
  rw[if_pos (by simp;omega),aF (by omega) (by omega)];simp only[aa]
  have e1:=Xx (nth g.2 (i:Int)) h1
  have e1:jL ((nth g.2 (i:Int)).1,(nth g.2 (i:Int)).2.1,(nth g.2 (i:Int)).2.2.1,(nth g.2 (i:Int)).2.2.2) (g.1.length:Int)=_:=e1
  rw[e1];simp only[aa,decide_eq_true_eq]
  by_cases c1:edgeP (nth g.2 (i:Int)) g.1.length
  ·rw[if_pos c1]
   by_cases c2:0<i
   ·rw[if_pos (by omega),pD (by omega),aF (by omega) (by omega)];simp only[aa]
    by_cases c3:(nth g.2 ((i:Int) - 1)).1<(nth g.2 (i:Int)).1
    ·rw[if_neg (by omega),if_pos ⟨c1,fun _=>c3⟩,af (by omega)]
    ·rw[if_pos (by omega),if_neg (fun h=>c3 (h.2 c2))]
   ·rw[if_neg (by omega),if_pos ⟨c1,fun h=>absurd h c2⟩,af (by omega)]
  ·rw[if_neg c1,if_neg (fun h=>c1 h.1)]) (by unfold c8;rw[if_neg (by simp)])
 rcases k0 with ⟨k0,j0⟩ | ⟨k0,j0⟩
 ·rw[aw k0]
  rcases k1 with ⟨k1,j1⟩ | ⟨k1,j1⟩
  ·rw[aw k1,GZ];simp only[aa,decide_eq_true_eq]
   split
   ·rename_i c
    refine ⟨_,rfl,fun hb=>?_⟩
    have hb:=of_decide_eq_true hb
    refine ⟨by omega,by omega,by omega,fun v hv=>?_,fun e he=>?_,fun i hi=>?_⟩
    ·obtain ⟨i,hi,rfl⟩:=Is hv
     exact j0 i hi
    ·obtain ⟨i,hi,rfl⟩:=Is he
     obtain ⟨a1,a2,a3,a4⟩:=(j1 i hi).1
     exact ⟨⟨a2.1,by omega⟩,⟨a3.1,by omega⟩,a4⟩
    ·have:=(j1 (i+1) hi).2 (by omega)
     rwa [show (((i+1:Nat):Int) - 1)=(i:Int) from by omega] at this
   ·exact ⟨false,rfl,fun h=>by cases h⟩
  ·rw[cd k1];exact ⟨false,rfl,fun h=>by cases h⟩
 ·rw[cd k0];exact ⟨false,rfl,fun h=>by cases h⟩
end D
namespace D
open Go.RowKit
end D
namespace D
open Go.RowKit
section
variable {a:AutT} {n:Nat} (V:VA a n) (hn:n<=12)
include V hn
end
section
variable {a:AutT} {n:Nat} (V:VA a n) (hn:n<=12)
include V hn
end
section
variable {a:AutT} {n:Nat} (V:VA a n) (hn:n<=12)
include V
include hn
end
end D
namespace D
open Go.RowKit
section
variable {α:Type} {N:Nat} {F G:Nat->α}
end
abbrev EdT:=Int×Int×Int×Int
abbrev ArT:=(Int×Bool)×Int×Int
def inv (e:EdT):ArT:=((e.1,true),2*e.2.2.2+1,e.2.1)
end D
namespace D
open Go.RowKit
section
variable {g:GrT} {a:AutT} (G:GOk g) (V:VA a a.2.1.length) (hn:a.2.1.length<=12)
include G V hn
end
section
variable {g:GrT} {a:AutT} {F:Nat->List Int} {N:Nat}
end
section
variable {g:GrT} {a:AutT} (G:GOk g) (V:VA a a.2.1.length) (hn:a.2.1.length<=12)
include G V hn
end
end D
namespace D
open Go.RowKit
section
variable {a:AutT} {n:Nat} (V:VA a n) (hn:n<=12)
include V hn
end
section
variable {g:GrT} {a:AutT} (G:GOk g) (V:VA a a.2.1.length) (hn:a.2.1.length<=12)
include G V hn
end
end D
namespace D
open Go.RowKit
section
variable {nx:Int->List Int} {N:Nat} {v:Int} (hv:0<=v/\v<N) (hn: ∀x:Int,0<=x->x<N-> ∀y∈nx x,0<=y/\y<N)
include hv
include hn
end
end D
namespace D
open Go.RowKit
section
variable {nx:Int->List Int} {N:Nat} {v:Int} (hN:N<=60) (hv:0<=v/\v<N) (hn: ∀x:Int,0<=x->x<N-> ∀y∈nx x,0<=y/\y<N) (hl: ∀x,(nx x).length<=100000)
include hN hv hn hl
end
end D
namespace D
open Go.RowKit
end D
namespace D
open Go.RowKit
theorem O4 (g:GrT):gp g=cw g:=by
 have h0:ni g=dN g:=rfl
 have h1:jH g=c8 g:=by
  funext s
  unfold jH c8
  split
  ·cases hx:aQ g.2 s with
   | none=>rfl
   | some x=>rfl
  ·rfl
 unfold gp cw
 rw[h0,h1];rfl
def YT (g:GrT) (a:AutT):Prop:=GOk g/\a.2.1.length<=12/\VA a a.2.1.length
section
variable {g:GrT} {a:AutT} (H:YT g a)
include H
end
section
variable {g:GrT} {a:AutT} (H:YT g a)
include H
end
section
variable {g:GrT} {a:AutT} (H:YT g a) {x:Int} (hx:0<=x/\x<g.1.length)
include H hx
end
end D
namespace D
open Go.RowKit
abbrev Tok:=Int×Int×Int×Int
def ar (t:Tok):Int:=
 if t.1=1\/t.1=2 then (if t.2.1=0/\t.2.2.1=0/\t.2.2.2=0 then 0 else -1)
 else if t.1=3 then (if (0<=t.2.1/\t.2.1<=8)/\t.2.2.1=0/\t.2.2.2=0 then 0 else -1)
 else if t.1=4\/t.1=5 then (if t.2.1=0/\t.2.2.1=0/\t.2.2.2=0 then 2 else -1)
 else if t.1=6 then (if t.2.1=0/\t.2.2.1=0/\t.2.2.2=0 then 1 else -1)
 else if t.1=7 then (if t.2.1=0/\(0<=t.2.2.1/\t.2.2.1<=t.2.2.2)/\(1<=t.2.2.2/\t.2.2.2<=3) then 1 else -1)
 else -1
theorem RX (x:Int):lX x=some (decide (0<=x/\x<=8)):=by unfold lX;rw[LQ];rfl
theorem RY (x:Int):jM x=some (decide (0<=x/\x<=8)):=by unfold jM;rw[GZ];rfl
theorem ZC (t:Tok):nk t=some (ar t):=by
 obtain ⟨k,l,lo,hi⟩:=t
 unfold nk ar
 simp only[RX,LQ,aa]
 by_cases h1:k=1
 ·subst h1;simp;grind
 by_cases h2:k=2
 ·subst h2;simp;grind
 by_cases h3:k=3
 ·subst h3;simp;grind
 by_cases h4:k=4
 ·subst h4;simp;grind
 by_cases h5:k=5
 ·subst h5;simp;grind
 by_cases h6:k=6
 ·subst h6;simp;grind
 by_cases h7:k=7
 ·subst h7;simp;grind
 simp[h1,h2,h3,h4,h5,h6,h7]
theorem Xy (t:Tok):pZ t=some (decide (0<=ar t)):=by
 obtain ⟨k,l,lo,hi⟩:=t
 unfold pZ ar
 simp only[RY,GZ,aa]
 by_cases h1:k=1
 ·subst h1;simp;grind
 by_cases h2:k=2
 ·subst h2;simp;grind
 by_cases h3:k=3
 ·subst h3;simp only[]
  by_cases a:0<=l/\l<=8 <;> by_cases b:lo=0 <;> by_cases c:hi=0 <;> simp[a,b,c]
 by_cases h4:k=4
 ·subst h4;simp;grind
 by_cases h5:k=5
 ·subst h5;simp;grind
 by_cases h6:k=6
 ·subst h6;simp;grind
 by_cases h7:k=7
 ·subst h7;simp only[]
  by_cases a:l=0 <;> by_cases b:0<=lo/\lo<=hi <;> by_cases c:1<=hi/\hi<=3 <;> simp[a,b,c]
 simp[h1,h2,h3,h4,h5,h6,h7]
theorem wg (t:Tok): -1<=ar t/\ar t<=2:=by
 unfold ar
 grind
theorem nS {t:Tok} (h:0<=ar t):(ar t=2/\(t.1=4\/t.1=5))\/(ar t=1/\(t.1=6\/t.1=7))\/(ar t=0/\(t.1=1\/t.1=2\/t.1=3)):=by
 unfold ar at h⊢
 grind
theorem Ba {t:Tok} (h:0<=ar t) (k:t.1=7):(0<=t.2.2.1/\t.2.2.1<=t.2.2.2)/\(1<=t.2.2.2/\t.2.2.2<=3):=by
 unfold ar at h
 grind
mutual
def flat:Tr Tok->List Tok
 | .nil=>[]
 | .node t ks=>jI ks++ [t]
def jI:List (Tr Tok)->List Tok
 | [] =>[]
 | k::ks=>flat k++jI ks
end
inductive WT:Tr Tok->Prop
 | node {t:Tok} {ks:List (Tr Tok)} :ar t=(ks.length:Int)->(∀k,k∈ks->WT k)->WT (.node t ks)
theorem pF: ∀(a b:List (Tr Tok)),jI (a++b)=jI a++jI b
 | [],b=>rfl
 | k::a,b=>by rw[List.cons_append,jI,jI,pF a b,ai]
theorem mf (x:Tr Tok):jI [x] =flat x:=by rw[jI,jI,List.append_nil]
theorem O5 (x y:Tr Tok):jI [x,y] =flat x++flat y:=by rw[jI,mf]
theorem WT.cases {x:Tr Tok} (h:WT x):(∃t,x= .node t [] /\ar t=0)\/(∃t a,x= .node t [a] /\ar t=1/\WT a)\/ ∃t a b,x= .node t [a,b] /\ar t=2/\WT a/\WT b:=by
 cases h with
 | @node t ks h1 h2 =>
  have:=(wg t).2
  match ks,h1,h2 with
  | [],h1,h2=>exact .inl ⟨t,rfl,h1⟩
  | [a],h1,h2=>exact .inr (.inl ⟨t,a,rfl,h1,h2 a (by simp)⟩)
  | [a,b],h1,h2=>exact .inr (.inr ⟨t,a,b,rfl,h1,h2 a (by simp),h2 b (by simp)⟩)
  | _::_::_::_,h1,h2=>simp at h1;omega
theorem WT.ind {p:Tr Tok->Prop} (h0: ∀t,ar t=0->p (.node t [])) (h1: ∀t a,ar t=1->WT a->p a->p (.node t [a])) (h2: ∀t a b,ar t=2->WT a->WT b->p a->p b->p (.node t [a,b])) {x:Tr Tok} (h:WT x):p x:=by
 induction h with
 | @node t ks e k ih =>
  have:=(wg t).2
  match ks,e,k,ih with
  | [],e,k,ih=>exact h0 t e
  | [a],e,k,ih=>exact h1 t a e (k a (by simp)) (ih a (by simp))
  | [a,b],e,k,ih=>exact h2 t a b e (k a (by simp)) (k b (by simp)) (ih a (by simp)) (ih b (by simp))
  | _::_::_::_,e,_,_=>simp at e;omega
theorem B5 (t:Tok):flat (.node t [])= [t]:=by rw[flat,jI];rfl
theorem Es (t:Tok) (a:Tr Tok):flat (.node t [a])=flat a++ [t]:=by rw[flat,mf]
theorem uO (t:Tok) (a b:Tr Tok):flat (.node t [a,b])=(flat a++flat b)++ [t]:=by rw[flat,O5]
theorem WT.pos {x:Tr Tok} (h:WT x):1<=(flat x).length:=by
 cases h with
 | node h1 h2=>rw[flat];simp
def stp (s:List (Tr Tok)) (t:Tok):Option (List (Tr Tok)):=if ar t<0\/(s.length:Int)<ar t then none else some (s.take (s.length - (ar t).toNat)++ [.node t (s.drop (s.length - (ar t).toNat))])
def run:List (Tr Tok)->List Tok->Option (List (Tr Tok))
 | s,[] =>some s
 | s,t::l=>(stp s t).bind fun s'=>run s' l
theorem Et: ∀(a:List Tok) {b:List Tok} {s:List (Tr Tok)},run s (a++b)=(run s a).bind fun s'=>run s' b
 | [],b,s=>rfl
 | t::a,b,s=>by
  rw[List.cons_append,run,run]
  cases stp s t with
  | none=>rfl
  | some s'=>exact Et a
theorem wh {a:List Tok} {t:Tok} {s:List (Tr Tok)} :run s (a++ [t])=(run s a).bind fun s'=>stp s' t:=by
 rw[Et]
 congr 1
 funext s'
 rw[run]
 cases stp s' t <;> rfl
theorem Tu: ∀ {l:List Tok} {s s':List (Tr Tok)},run s l=some s'->(∀k,k∈s->WT k)->(∀k,k∈s'->WT k)/\jI s'=jI s++l
 | [],s,s',h,hs=>by
  obtain rfl:=ae h
  exact ⟨hs,by simp⟩
 | t::l,s,s',h,hs=>by
  rw[run] at h
  unfold stp at h
  by_cases c:ar t<0\/(s.length:Int)<ar t
  ·rw[if_pos c] at h;cases h
  ·rw[if_neg c] at h
   have hlen:(s.drop (s.length - (ar t).toNat)).length=(ar t).toNat:=by rw[aT];omega
   obtain ⟨k1,k2⟩:=Tu (show run _ l=some s' from h) fun k hk=>by
    rcases aI hk with hk | hk
    ·exact hs k (List.mem_of_mem_take hk)
    ·obtain rfl:=ay hk
     exact .node (by rw[hlen];omega) fun k hk=>hs k (List.mem_of_mem_drop hk)
   refine ⟨k1,?_⟩
   rw[k2,pF,mf,flat,<-ai,<-pF,List.take_append_drop]
   simp
theorem RZ {x:Tr Tok} (h:WT x): ∀s,run s (flat x)=some (s++ [x]):=by
 refine WT.ind (p:=fun x=> ∀s,run s (flat x)=some (s++ [x])) ?_ ?_ ?_ h
 ·intro t e s
  rw[B5,run,stp,if_neg (by omega),e]
  simp[run]
 ·intro t a e _ ia s
  rw[Es,wh,ia]
  show stp (s++ [a]) t=_
  rw[stp,if_neg (by simp;omega),e]
  simp
 ·intro t a b e _ _ ia ib s
  rw[uO,wh,Et,ia]
  show ((run (s++ [a]) (flat b)).bind fun s'=>stp s' t)=_
  rw[ib]
  show stp (s++ [a] ++ [b]) t=_
  rw[stp,if_neg (by simp;omega),e]
  have:(s++ [a] ++ [b]).length - (2:Int).toNat=s.length:=by simp
  rw[this]
  simp
def isX (e:List Tok):Bool:=match run [] e with
 | some [_] =>true
 | _=>false
theorem O6 {e:List Tok} (h:isX e=true): ∃x,run [] e=some [x] /\WT x/\flat x=e:=by
 unfold isX at h
 split at h
 ·rename_i x hx
  obtain ⟨k1,k2⟩:=Tu hx (fun k hk=>by cases hk)
  refine ⟨x,hx,k1 x (by simp),?_⟩
  rw[mf] at k2
  rw[k2];rfl
 ·cases h
theorem O7 {l:List Tok} : ∀ {s s':List (Tr Tok)},run s l=some s'->s'.length<=s.length+l.length:=by
 induction l with
 | nil=>intro s s' h;obtain rfl:=ae h;simp
 | cons t l ih =>
  intro s s' h
  rw[run] at h
  obtain ⟨s1,h1,h2⟩:=Option.bind_eq_some_iff.1 h
  have h3:=ih h2
  unfold stp at h1
  split at h1
  ·cases h1
  ·obtain rfl:=ae h1
   simp only[al,aA,ak,aG] at h3⊢
   omega
theorem Bb {e:List Tok} {i:Nat} (h:i<e.length):e.take (i+1)=e.take i++ [nth e (i:Int)]:=by
 rw[List.take_succ_eq_append_getElem h,bZ h]
theorem za {e:List Tok} {i:Nat} (h:i<e.length) {st:List (Tr Tok)} (h1:run [] (e.take i)=some st) (h2:stp st (nth e (i:Int))=none):run [] e=none:=by
 have:run [] (e.take (i+1))=none:=by rw[Bb h,wh,h1];exact h2
 rw[<-List.take_append_drop (i+1) e,Et,this];rfl
theorem R0 {e:List Tok} (he:e.length<=1048576):sJ e=some (isX e):=by
 obtain ⟨o,eo,hq⟩:=cT (f:=pT e) (fun i s=> ∃st,s=((st.length:Int),(i:Int))/\run [] (e.take i)=some st) (fun o=>(o= .ret false/\run [] e=none)\/ ∃st,o= .brk ((st.length:Int),(e.length:Int))/\run [] e=some st) e.length (s:=(0,0)) (by
  rintro i s hi ⟨st,rfl,hst⟩
  have hl:=O7 hst
  simp only[aG,aA] at hl
  unfold pT
  simp only[dU]
  by_cases c:i<e.length
  ·rw[if_pos (by simp;omega),aF (by omega) (by omega)];simp only[aa]
   rw[ZC];simp only[aa]
   have hr:=wg (nth e (i:Int))
   by_cases c1:ar (nth e (i:Int))<0
   ·refine .inr ⟨_,by rw[if_pos (by simpa using c1)],(fun s' e=>by cases e),.inl ⟨rfl,za c hst ?_⟩⟩
    rw[stp,if_pos (.inl c1)]
   ·rw[if_neg (by simpa using c1)]
    by_cases c2:ar (nth e (i:Int))>(st.length:Int)
    ·refine .inr ⟨_,by rw[if_pos (by simpa using c2)],(fun s' e=>by cases e),.inl ⟨rfl,za c hst ?_⟩⟩
     rw[stp,if_pos (.inr c2)]
    ·rw[if_neg (by simpa using c2)]
     refine .inl ⟨c,_,rfl,st.take (st.length - (ar (nth e (i:Int))).toNat)++ [.node (nth e (i:Int)) (st.drop (st.length - (ar (nth e (i:Int))).toNat))],?_,?_⟩
     ·rw[fa (n:=(st.length:Int) - ar (nth e (i:Int))) (by omega) (by omega),fa (by omega) (by omega),af (by omega)]
      congr 1
      simp only[al,aA,ak,aG]
      omega
     ·rw[Bb c,wh,hst]
      show stp st _=_
      rw[stp,if_neg (by omega)]
  ·obtain rfl:i=e.length:=by omega
   rw[List.take_of_length_le (by omega)] at hst
   exact .inr ⟨_,by rw[if_neg (by simp)],(fun s' e=>by cases e),.inr ⟨st,rfl,hst⟩⟩) ⟨[],rfl,rfl⟩ (tV (by omega))
 unfold sJ
 rcases hq with ⟨rfl,h⟩ | ⟨st,rfl,h⟩
 ·rw[cd eo];unfold isX;rw[h]
 ·rw[aw eo];unfold isX;rw[h]
  match st with
  | [] =>rfl
  | [_] =>rfl
  | _::_::_=>simp;omega
theorem YU {t:Tok} (h:0<=ar t):(Option.bind ((if t.1==4 then (some (t.1==4)) else (some (t.1==5)):Option Bool)) (fun s3=>if s3 then (some 2) else (Option.bind ((if t.1==6 then (some (t.1==6)) else (some (t.1==7)):Option Bool)) (fun s4=>if s4 then (some 1) else (some 0)))):Option Int)=some (ar t):=by
 rcases nS h with ⟨e,k | k⟩ | ⟨e,k | k⟩ | ⟨e,k | k | k⟩ <;> rw[e] <;> simp[k]
theorem VN (t:Tok): ∃n:Int,(Option.bind ((if t.1==4 then (some (t.1==4)) else (some (t.1==5)):Option Bool)) (fun s3=>if s3 then (some 2) else (Option.bind ((if t.1==6 then (some (t.1==6)) else (some (t.1==7)):Option Bool)) (fun s4=>if s4 then (some 1) else (some 0)))):Option Int)=some n:=by
 by_cases h4:t.1=4
 ·exact ⟨2,by simp[h4]⟩
 by_cases h5:t.1=5
 ·exact ⟨2,by simp[h5]⟩
 by_cases h6:t.1=6
 ·exact ⟨1,by simp[h6]⟩
 by_cases h7:t.1=7
 ·exact ⟨1,by simp[h7]⟩
 exact ⟨0,by simp[h4,h5,h6,h7]⟩
def yL (e:List Tok):Tr Tok:=match run [] e with
 | some [x] =>x
 | _=>.nil
theorem Eu {e:List Tok} (he:e.length<=1048576):mU e=some (yL e):=by
 obtain ⟨o,eo,hq⟩:=cT (f:=p7 e) (fun i s=> ∃st,s=(st,(i:Int))/\run [] (e.take i)=some st) (fun o=>(o= .ret Tr.nil/\run [] e=none)\/ ∃st,o= .brk (st,(e.length:Int))/\run [] e=some st) e.length (s:=([],0)) (by
  rintro i s hi ⟨st,rfl,hst⟩
  have hl:=O7 hst
  simp only[aG,aA] at hl
  unfold p7
  simp only[dU]
  by_cases c:i<e.length
  ·rw[if_pos (by simp;omega),aF (by omega) (by omega)];simp only[aa]
   have hr:=wg (nth e (i:Int))
   by_cases c1:ar (nth e (i:Int))<0
   ·obtain ⟨n,hn⟩:=VN (nth e (i:Int))
    rw[hn];simp only[aa]
    rw[Xy];simp only[aa]
    refine .inr ⟨_,by rw[if_neg (by simp;omega)],(fun s' e=>by cases e),.inl ⟨rfl,za c hst ?_⟩⟩
    rw[stp,if_pos (.inl c1)]
   ·rw[YU (by omega)];simp only[aa]
    rw[Xy];simp only[aa]
    rw[if_pos (by simp;omega),fa (n:=(st.length:Int) - ar (nth e (i:Int))) (by omega) (by omega)]
    by_cases c2:ar (nth e (i:Int))>(st.length:Int)
    ·refine .inr ⟨_,by rw[if_pos (by simp;omega)],(fun s' e=>by cases e),.inl ⟨rfl,za c hst ?_⟩⟩
     rw[stp,if_pos (.inr c2)]
    ·rw[if_neg (by simp;omega),show∀p:Prop,∀ [Decidable p],p->chk p=some () from fun p _ hp=>by unfold chk;rw[if_pos hp]]
     ·simp only[aa]
      have e1:((st.length:Int) - ar (nth e (i:Int))).toNat=st.length - (ar (nth e (i:Int))).toNat:=by omega
      rw[e1,aL (by simp;omega)];simp only[aa]
      rw[aL (by simp;omega)];simp only[aa,List.nil_append,af (show i<9223372036854775807 by omega)]
      refine .inl ⟨c,_,rfl,_,rfl,?_⟩
      rw[Bb c,wh,hst]
      show stp st _=_
      rw[stp,if_neg (by omega)]
     ·omega
  ·obtain rfl:i=e.length:=by omega
   rw[List.take_of_length_le (by omega)] at hst
   exact .inr ⟨_,by rw[if_neg (by simp)],(fun s' e=>by cases e),.inr ⟨st,rfl,hst⟩⟩) ⟨[],rfl,rfl⟩ (tV (by omega))
 unfold mU
 rcases hq with ⟨rfl,h⟩ | ⟨st,rfl,h⟩
 ·rw[cd eo];unfold yL;rw[h]
 ·rw[aw eo];unfold yL;rw[h]
  match st with
  | [] =>rfl
  | [x] =>rfl
  | _::_::_ =>
   simp only
   rw[if_pos (by simp;omega)]
theorem xm {x:Tr Tok} (h:WT x):yL (flat x)=x:=by unfold yL;rw[RZ h];rfl
theorem R1 {e:List Tok} (he:e.length<=1048576):sM e=some (isX e):=by
 unfold sM
 rw[Eu he];simp only[aa]
 congr 1
 by_cases h:isX e=true
 ·rw[h]
  obtain ⟨x,h1,h2,h3⟩:=O6 h
  have:yL e=x:=by unfold yL;rw[h1]
  rw[this]
  cases h2 with
  | node _ _=>rfl
 ·have:yL e= .nil:=by
   unfold yL
   unfold isX at h
   split
   ·rename_i x hx;rw[hx] at h;exact absurd rfl h
   ·rfl
  rw[this,Bool.eq_false_iff.2 h];rfl
theorem IA {e:List Tok} (he:e.length<=1048576):ke e=some (decide (e.length<=24)&&isX e):=by
 unfold ke
 rw[R0 he]
 by_cases c:e.length<=24
 ·rw[if_pos (by simp;omega)];simp[c]
 ·rw[if_neg (by simp;omega)];simp[c]
theorem IB {e:List Tok} (he:e.length<=1048576):km e=some (decide (e.length<=24)&&isX e):=by
 unfold km
 rw[R1 he]
 by_cases c:e.length<=24
 ·rw[if_pos (by simp;omega)];simp[c]
 ·rw[if_neg (by simp;omega)];simp[c]
theorem chk_of {p:Prop} [Decidable p] (h:p):chk p=some ():=by unfold chk;rw[if_pos h]
theorem VO {A:List Tok} {x:Tr Tok} (hx:WT x) (hl:(A++flat x).length<=1000000):gR (A++flat x)=some (A.length:Int):=by
 obtain ⟨s',e,ks,q1,q2,q3⟩: ∃s',ax (lx (A++flat x)) aX (1,((A++flat x).length:Int))=some (.brk s')/\ ∃ks:List (Tr Tok),ks= [] /\s'.2=(A.length:Int)/\True:=by
  obtain ⟨o,eo,hq⟩:=cT (f:=lx (A++flat x)) (fun i s=> ∃ks:List (Tr Tok),(∀k,k∈ks->WT k)/\s=((ks.length:Int),(((A++jI ks).length:Nat):Int))/\i+(jI ks).length=(flat x).length/\(A++flat x).take (A++jI ks).length=A++jI ks) (fun o=> ∃s',o= .brk s'/\s'.2=(A.length:Int)) (flat x).length (s:=(1,((A++flat x).length:Int))) (by
   rintro i s hi ⟨ks,hw,rfl,hlen,htk⟩
   unfold lx
   simp only[dU]
   rcases List.eq_nil_or_concat ks with rfl | ⟨ks',y,rfl⟩
   ·refine .inr ⟨_,by rw[if_neg (by simp)],(fun s' e=>by cases e),_,rfl,?_⟩
    simp[jI]
   ·have hy:=hw y (by simp)
    cases hy with
    | @node t cs h1 h2 =>
     have hfl:jI (ks'++ [.node t cs])=jI (ks'++cs)++ [t]:=by rw[pF,mf,flat,pF,ai]
     rw[List.concat_eq_append,hfl] at hlen htk⊢
     simp only[al,ak,aG] at hlen htk hl⊢
     rw[if_pos (by simp <;> omega)]
     have hpos:IntKind.i64.wrap (((A.length+((jI (ks'++cs)).length+1):Nat):Int) - 1)=((A.length+(jI (ks'++cs)).length:Nat):Int):=by
      rw[fa (by omega) (by omega)];omega
     have hget:nth (A++flat x) ((A.length+(jI (ks'++cs)).length:Nat):Int)=t:=by
      have hlt:A.length+(jI (ks'++cs)).length<(A++flat x).length:=by rw[al];omega
      have e1:=congrArg (fun l:List Tok=>l[A.length+(jI (ks'++cs)).length]?) htk
      rw[List.getElem?_take_of_lt (by omega),List.getElem?_eq_getElem hlt,<-ai,List.getElem?_append_right (by rw[al];omega),al] at e1
      rw[bZ hlt]
      simpa using e1
     rw[hpos,aF (by omega) (by simp only[al];omega),hget];simp only[aa]
     rw[ZC,h1];simp only[aa]
     have hcl:(cs.length:Int)<=2:=by rw[<-h1];exact (wg t).2
     have hkl:ks'.length<=(jI (ks'++cs)).length+1000000:=by
      have: ∀l:List (Tr Tok),(∀k,k∈l->WT k)->l.length<=(jI l).length:=by
       intro l
       induction l with
       | nil=>intro _;simp
       | cons k l ih =>
        intro h
        have h1:=(h k (by simp)).pos
        have h2:=ih fun k hk=>h k (by simp[hk])
        rw[jI];simp only[ak,al];omega
      have:=this ks' fun k hk=>hw k (by simp[hk])
      rw[pF,al];omega
     refine .inl ⟨by omega,_,rfl,ks'++cs,fun k hk=>?_,?_,by omega,?_⟩
     ·rcases aI hk with hk | hk
      ·exact hw k (by simp[hk])
      ·exact h2 k hk
     ·rw[fa (n:=((ks'.length+1:Nat):Int) - 1) (by omega) (by omega),fa (by omega) (by omega)]
      congr 1
      (simp only[al]) <;> omega
     ·have e1:=congrArg (List.take (A++jI (ks'++cs)).length) htk
      rw[List.take_take,Nat.min_eq_left (by rw[al];omega),<-ai,List.take_left] at e1
      rw[al] at e1
      exact e1) ⟨[x],fun k hk=>by (obtain rfl:=ay hk;exact hx),by rw[mf];rfl,by rw[mf];omega,by rw[mf,List.take_length]⟩ (tV (by rw[al] at hl;omega))
  obtain ⟨s',rfl,h2⟩:=hq
  exact ⟨s',eo,[],rfl,h2,trivial⟩
 unfold gR
 rw[aw e,q2]
end D
namespace D
open Go.RowKit
instance trInh {α:Type} :Inhabited (Tr α):=⟨.nil⟩
def szX:Tr Tok->Int
 | .nil=>0
 | .node t ks=>min (szL t 1 ks) 100000
where szL (t:Tok) (acc:Int):List (Tr Tok)->Int
 | [] =>acc
 | k::ks=>szL t (acc+(if t.1=7 then (szX k+3)*t.2.2.2 else szX k)) ks
theorem eX {x:Tr Tok} (h:WT x):1<=szX x/\szX x<=100000:=by
 refine WT.ind (p:=fun x=>1<=szX x/\szX x<=100000) ?_ ?_ ?_ h
 ·intro t _
  show 1<=min (1:Int) 100000/\min (1:Int) 100000<=100000
  omega
 ·intro t a e _ ih
  show 1<=min ((1:Int)+(if t.1=7 then (szX a+3)*t.2.2.2 else szX a)) 100000/\min ((1:Int)+(if t.1=7 then (szX a+3)*t.2.2.2 else szX a)) 100000<=100000
  split
  ·rename_i k
   have hr:=Ba (show 0<=ar t by omega) k
   have:0<=(szX a+3)*t.2.2.2:=Int.mul_nonneg (by omega) (by omega)
   omega
  ·omega
 ·intro t a b e _ _ iha ihb
  have k:t.1≠7:=by
   rcases nS (show 0<=ar t by omega) with ⟨_,k⟩ | ⟨k,_⟩ | ⟨k,_⟩ <;> omega
  show 1<=min ((1:Int)+(if t.1=7 then (szX a+3)*t.2.2.2 else szX a)+(if t.1=7 then (szX b+3)*t.2.2.2 else szX b)) 100000/\min ((1:Int)+(if t.1=7 then (szX a+3)*t.2.2.2 else szX a)+(if t.1=7 then (szX b+3)*t.2.2.2 else szX b)) 100000<=100000
  rw[if_neg k,if_neg k]
  omega
theorem GN {a h:Int} (h1:1<=a/\a<=100000) (h2:1<=h/\h<=3):IntKind.i64.wrap ((IntKind.i64.wrap (a+3))*h)=(a+3)*h:=by
 rw[fa (n:=a+3) (by omega) (by omega)]
 have k1:0<=(a+3)*h:=Int.mul_nonneg (by omega) (by omega)
 have k2:(a+3)*h<=100003*3:=Int.mul_le_mul (by omega) (by omega) (by omega) (by omega)
 exact fa (by omega) (by omega)
theorem O8 {a h:Int} (h1:1<=a/\a<=100000) (h2:1<=h/\h<=3):0<=(a+3)*h/\(a+3)*h<=300009:=by
 have k1:0<=(a+3)*h:=Int.mul_nonneg (by omega) (by omega)
 have k2:(a+3)*h<=100003*3:=Int.mul_le_mul (by omega) (by omega) (by omega) (by omega)
 omega
theorem pG {t:Tok} {ks:List (Tr Tok)} :Tr.get (.node t ks)=some (t,ks):=rfl
theorem xn {f:Tr Tok->Option Int} {t:Tok} {ks:List (Tr Tok)} {i:Nat} {acc:Int} (hi:i<ks.length) (hf:f (nth ks (i:Int))=some (szX (nth ks (i:Int)))) (hw:WT (nth ks (i:Int))) (ht:0<=ar t) (ha:0<=acc/\acc<=1000000) (hik:i<=1000000) :
  bK f (.node t ks) (t,ks) (acc,(i:Int))=some (.nxt (acc+(if t.1=7 then (szX (nth ks (i:Int))+3)*t.2.2.2 else szX (nth ks (i:Int))),((i+1:Nat):Int))):=by
 unfold bK
 simp only[pG]
 have hr:=eX hw
 rw[if_pos (by simp <;> omega),aF (by omega) (by omega)];simp only[aa]
 by_cases k:t.1=7
 ·have h7:=Ba ht k
  have hm:=O8 hr h7.2
  rw[if_pos (by simpa using k),if_pos k,hf];simp only[aa]
  rw[GN hr h7.2,fa (by omega) (by omega),af (by omega)]
 ·rw[if_neg (by simpa using k),if_neg k,hf];simp only[aa]
  rw[fa (by omega) (by omega),af (by omega)]
theorem zb {α:Type} [Inhabited α] {a:α} {l:List α} :nth (a::l) ((0:Nat):Int)=a:=rfl
theorem O9 {α:Type} [Inhabited α] {a b:α} {l:List α} :nth (a::b::l) ((1:Nat):Int)=b:=rfl
theorem VP {x:Tr Tok} (h:WT x): ∀n,(flat x).length<=n->bS n x=some (szX x):=by
 refine WT.ind (p:=fun x=> ∀n,(flat x).length<=n->bS n x=some (szX x)) ?_ ?_ ?_ h
 ·intro t e n hn
  rw[B5] at hn
  match n,hn with
  | n+1,_ =>
   rw[bS];simp only[pG,aa]
   have hL:ax (bK (bS n) (.node t []) (t,[])) aX (1,0)=some (.brk (1,0)):=bq (f:=bK (bS n) (.node t []) (t,[])) (fun i=>(1,(i:Int))) 0 (fun i hi=>by omega) (by unfold bK;simp) (by unfold aX;omega)
   rw[aw hL]
   all_goals rfl
 ·intro t a e wa ih n hn
  rw[Es,al] at hn
  match n,hn with
  | n+1,hn =>
   have hr:=eX wa
   rw[bS];simp only[pG,aa]
   have hL:ax (bK (bS n) (.node t [a]) (t,[a])) aX (1,0)=some (.brk (szX.szL t 1 [a],1)):=bq (f:=bK (bS n) (.node t [a]) (t,[a])) (fun i=>(szX.szL t 1 ([a].take i),(i:Int))) 1 (fun i hi=>by
    obtain rfl:i=0:=by omega
    exact xn (acc:=1) (i:=0) (by simp) (ih n (by simp at hn;omega)) wa (by omega) (by omega) (by omega)) (by unfold bK;simp) (by unfold aX;omega)
   rw[aw hL]
   all_goals rfl
 ·intro t a b e wa wb iha ihb n hn
  rw[uO,al,al] at hn
  match n,hn with
  | n+1,hn =>
   have hra:=eX wa
   have hrb:=eX wb
   have k:t.1≠7:=by
    rcases nS (show 0<=ar t by omega) with ⟨_,k⟩ | ⟨k,_⟩ | ⟨k,_⟩ <;> omega
   rw[bS];simp only[pG,aa]
   have hL:ax (bK (bS n) (.node t [a,b]) (t,[a,b])) aX (1,0)=some (.brk (szX.szL t 1 [a,b],2)):=bq (f:=bK (bS n) (.node t [a,b]) (t,[a,b])) (fun i=>(szX.szL t 1 ([a,b].take i),(i:Int))) 2 (fun i hi=>by
    have:i=0\/i=1:=by omega
    rcases this with rfl | rfl
    ·exact xn (acc:=1) (i:=0) (by simp) (iha n (by simp at hn;omega)) wa (by omega) (by omega) (by omega)
    ·exact xn (acc:=1+(if t.1=7 then (szX a+3)*t.2.2.2 else szX a)) (i:=1) (by simp) (ihb n (by simp at hn;omega)) wb (by omega) (by rw[if_neg k];omega) (by omega)) (by unfold bK;simp) (by unfold aX;omega)
   rw[aw hL]
   all_goals rfl
theorem mT {A:List Tok} {t:Tok} (h:A.length<=1000000):aQ (A++ [t]) (IntKind.i64.wrap (((A++ [t]).length:Int) - 1))=some t/\IntKind.i64.wrap (((A++ [t]).length:Int) - 1)=(A.length:Int):=by
 have e:IntKind.i64.wrap (((A++ [t]).length:Int) - 1)=(A.length:Int):=by
  rw[fa (by simp only[al,ak,aG];omega) (by simp only[al,ak,aG];omega)]
  simp only[al,ak,aG];omega
 refine ⟨?_,e⟩
 rw[e,aF (by omega) (by simp only[al,ak,aG];omega),bZ (by simp)]
 simp
theorem ZD {t:Tok} (h:ar t=2):(if t.1==4 then (some (t.1==4)) else (some (t.1==5)):Option Bool)=some true:=by
 rcases nS (show 0<=ar t by omega) with ⟨_,k | k⟩ | ⟨e,_⟩ | ⟨e,_⟩
 ·simp[k]
 ·simp[k]
 ·omega
 ·omega
theorem R2 {t:Tok} (h:ar t=1\/ar t=0):(if t.1==4 then (some (t.1==4)) else (some (t.1==5)):Option Bool)=some false:=by
 rcases nS (show 0<=ar t by omega) with ⟨e,k⟩ | ⟨e,k | k⟩ | ⟨e,k | k | k⟩
 ·omega
 all_goals simp[k]
theorem Xz {t:Tok} (h:ar t=0):(t.1==6)=false/\(t.1==7)=false:=by
 rcases nS (show 0<=ar t by omega) with ⟨e,k⟩ | ⟨e,k | k⟩ | ⟨e,k | k | k⟩
 ·omega
 ·omega
 ·omega
 all_goals simp[k]
theorem R3 {t:Tok} (h:ar t=1):((t.1==6)=true/\t.1=6)\/((t.1==6)=false/\(t.1==7)=true/\t.1=7):=by
 rcases nS (show 0<=ar t by omega) with ⟨e,k⟩ | ⟨e,k | k⟩ | ⟨e,k | k | k⟩
 ·omega
 ·left;simp[k]
 ·right;simp[k]
 all_goals omega
theorem Bc {a b:Tr Tok} {t:Tok} (wb:WT b) (hl:((flat a++flat b)++ [t]).length<=1000000) :
  (((flat a++flat b)++ [t]).take ((((flat a++flat b).length:Nat):Int)).toNat)=flat a++flat b /\
  gR (flat a++flat b)=some (((flat a).length:Nat):Int) /\
  (((flat a++flat b)++ [t]).take ((((flat a).length:Nat):Int)).toNat)=flat a /\
  (flat a++flat b).drop ((((flat a).length:Nat):Int)).toNat=flat b:=by
 refine ⟨?_,VO wb (by simp only[al,ak,aG] at hl⊢;omega),?_,?_⟩
 ·rw[Int.toNat_natCast,List.take_left]
 ·rw[Int.toNat_natCast,ai,List.take_left]
 ·rw[Int.toNat_natCast,List.drop_left]
theorem XA {x:Tr Tok} (h:WT x): ∀n,(flat x).length<=n->(flat x).length<=1000000->dM n (flat x)=some (szX x):=by
 refine WT.ind (p:=fun x=> ∀n,(flat x).length<=n->(flat x).length<=1000000->dM n (flat x)=some (szX x)) ?_ ?_ ?_ h
 ·intro t e n hn hl
  rw[B5] at hn hl⊢
  match n,hn with
  | n+1,_ =>
   have hk:=Xz e
   rw[dM]
   have:=(mT (A:=[]) (t:=t) (by simp)).1
   rw[List.nil_append] at this
   rw[this];simp only[aa]
   rw[R2 (.inr e)];simp only[aa,hk.1,hk.2,Bool.false_eq_true,if_false]
   rfl
 ·intro t a e wa ih n hn hl
  rw[Es] at hn hl⊢
  simp only[al,ak,aG] at hn hl
  match n,hn with
  | n+1,hn =>
   have hr:=eX wa
   rw[dM]
   obtain ⟨l1,l2⟩:=mT (A:=flat a) (t:=t) (by omega)
   rw[l1];simp only[aa]
   rw[R2 (.inl e)];simp only[aa,Bool.false_eq_true,if_false]
   rw[l2,Int.toNat_natCast,List.take_left,chk_of (by simp only[al,ak,aG];omega)];simp only[aa]
   rw[ih n (by omega) (by omega)];simp only[aa]
   rcases R3 e with ⟨k1,k2⟩ | ⟨k1,k2,k3⟩
   ·rw[if_pos k1,fa (by omega) (by omega)]
    show some (min 100000 (szX a+1))=some (min ((1:Int)+(if t.1=7 then (szX a+3)*t.2.2.2 else szX a)) 100000)
    rw[if_neg (by omega)]
    congr 1;omega
   ·have h7:=Ba (show 0<=ar t by omega) k3
    have hm:=O8 hr h7.2
    rw[if_neg (by simp[k1]),if_pos k2,GN hr h7.2,fa (by omega) (by omega)]
    show some (min 100000 ((szX a+3)*t.2.2.2+1))=some (min ((1:Int)+(if t.1=7 then (szX a+3)*t.2.2.2 else szX a)) 100000)
    rw[if_pos k3]
    congr 1;omega
 ·intro t a b e wa wb iha ihb n hn hl
  rw[uO] at hn hl⊢
  obtain ⟨p1,p2,p3,p4⟩:=Bc (a:=a) (t:=t) wb hl
  simp only[al,ak,aG] at hn hl
  match n,hn with
  | n+1,hn =>
   have hra:=eX wa
   have hrb:=eX wb
   have k:t.1≠7:=by
    rcases nS (show 0<=ar t by omega) with ⟨_,k⟩ | ⟨k,_⟩ | ⟨k,_⟩ <;> omega
   rw[dM]
   obtain ⟨l1,l2⟩:=mT (A:=flat a++flat b) (t:=t) (by rw[al];omega)
   rw[l1];simp only[aa]
   rw[ZD e];simp only[aa,if_true]
   rw[l2,p1,p2,chk_of (by simp only[al,ak,aG];omega)];simp only[aa]
   rw[chk_of (by simp only[al,ak,aG];omega),p3,p4];simp only[aa]
   rw[iha n (by omega) (by omega),chk_of (by simp only[al,ak,aG];omega)];simp only[aa]
   rw[ihb n (by have:=wa.pos;omega) (by omega)];simp only[aa]
   rw[fa (n:=szX a+szX b) (by omega) (by omega),fa (by omega) (by omega)]
   show some (min 100000 (szX a+szX b+1))=some (min ((1:Int)+(if t.1=7 then (szX a+3)*t.2.2.2 else szX a)+(if t.1=7 then (szX b+3)*t.2.2.2 else szX b)) 100000)
   rw[if_neg k,if_neg k]
   congr 1;omega
def R4:Tr Tok:=.node (2,0,0,0) []
def IC (x:Tr Tok):Nat->Int->Tr Tok
 | 0,_=>R4
 | h+1,low=>if 0<low then .node (4,0,0,0) [x,IC x h (max 0 (low - 1))] else .node (5,0,0,0) [.node (4,0,0,0) [x,IC x h (max 0 (low - 1))],R4]
mutual
def rb:Tr Tok->Tr Tok
 | .nil=>.nil
 | .node t ks=>if t.1=7 then IC ((PI ks).headD .nil) t.2.2.2.toNat t.2.2.1 else .node t (PI ks)
def PI:List (Tr Tok)->List (Tr Tok)
 | [] =>[]
 | k::ks=>rb k::PI ks
end
theorem ar4:ar (4,0,0,0)=2:=by decide
theorem ar5:ar (5,0,0,0)=2:=by decide
theorem ar2:ar (2,0,0,0)=0:=by decide
theorem Pa:WT R4:=.node ar2 fun k hk=>by cases hk
theorem wi:flat R4= [(2,0,0,0)]:=B5 _
theorem WT.two {t:Tok} {a b:Tr Tok} (h:ar t=2) (ha:WT a) (hb:WT b):WT (.node t [a,b]):=.node h fun k hk=>by
 rcases aE hk with rfl | hk
 ·exact ha
 ·obtain rfl:=ay hk
  exact hb
theorem WT.one {t:Tok} {a:Tr Tok} (h:ar t=1) (ha:WT a):WT (.node t [a]):=.node h fun k hk=>by
 obtain rfl:=ay hk
 exact ha
theorem ID {x:Tr Tok} (hx:WT x): ∀(h:Nat) (low:Int),WT (IC x h low)
 | 0,_=>Pa
 | h+1,low=>by
  rw[IC]
  split
  ·exact .two ar4 hx (ID hx h _)
  ·exact .two ar5 (.two ar4 hx (ID hx h _)) Pa
theorem Ev (x:Tr Tok): ∀(h:Nat) (low:Int),(flat (IC x h low)).length<=((flat x).length+3)*h+1
 | 0,_=>by rw[IC,wi];simp
 | h+1,low=>by
  have ih:=Ev x h (max 0 (low - 1))
  rw[IC]
  split
  ·rw[uO];simp only[al,ak,aG]
   rw[Nat.mul_succ];omega
  ·rw[uO,uO,wi];simp only[al,ak,aG]
   rw[Nat.mul_succ];omega
theorem Yj {t:Tok} {a:Tr Tok} :rb (.node t [a])=if t.1=7 then IC (rb a) t.2.2.2.toNat t.2.2.1 else .node t [rb a]:=by rw[rb,PI,PI];rfl
theorem exp2 {t:Tok} {a b:Tr Tok} (h:t.1≠7):rb (.node t [a,b])= .node t [rb a,rb b]:=by rw[rb,if_neg h,PI,PI,PI]
theorem Yk {t:Tok} (h:t.1≠7):rb (.node t [])= .node t []:=by rw[rb,if_neg h,PI]
theorem no7 {t:Tok} (h:ar t=2\/ar t=0):t.1≠7:=by
 rcases nS (show 0<=ar t by omega) with ⟨_,k⟩ | ⟨k,_⟩ | ⟨_,k⟩ <;> omega
theorem Tv {x:Tr Tok} (h:WT x):WT (rb x):=by
 refine WT.ind (p:=fun x=>WT (rb x)) ?_ ?_ ?_ h
 ·intro t e
  rw[Yk (no7 (.inr e))]
  exact .node e fun k hk=>by cases hk
 ·intro t a e _ ih
  rw[Yj]
  split
  ·exact ID ih _ _
  ·exact .one e ih
 ·intro t a b e _ _ iha ihb
  rw[exp2 (no7 (.inl e))]
  exact .two e iha ihb
theorem Ew {x:Tr Tok} (h:WT x):szX x<100000->((flat (rb x)).length:Int)<=szX x:=by
 refine WT.ind (p:=fun x=>szX x<100000->((flat (rb x)).length:Int)<=szX x) ?_ ?_ ?_ h
 ·intro t e _
  rw[Yk (no7 (.inr e)),B5]
  show (1:Int)<=min 1 100000
  omega
 ·intro t a e wa ih hs
  have hr:=eX wa
  have hs':min ((1:Int)+(if t.1=7 then (szX a+3)*t.2.2.2 else szX a)) 100000<100000:=hs
  show _<=min ((1:Int)+(if t.1=7 then (szX a+3)*t.2.2.2 else szX a)) 100000
  rw[Yj]
  by_cases k:t.1=7
  ·rw[if_pos k] at hs'⊢
   rw[if_pos k]
   have h7:=Ba (show 0<=ar t by omega) k
   have hge:szX a+3<=(szX a+3)*t.2.2.2:=by
    have:=Int.mul_le_mul_of_nonneg_left (c:=szX a+3) h7.2.1 (by omega)
    omega
   have h1:=ih (by omega)
   have h2:=Ev (rb a) t.2.2.2.toNat t.2.2.1
   have h3:(((flat (rb a)).length+3)*t.2.2.2.toNat:Int)<=(szX a+3)*t.2.2.2:=by
    rw[Int.toNat_of_nonneg (by omega)]
    exact Int.mul_le_mul_of_nonneg_right (by omega) (by omega)
   have h4:((flat (IC (rb a) t.2.2.2.toNat t.2.2.1)).length:Int)<=(((flat (rb a)).length+3)*t.2.2.2.toNat:Int)+1:=by exact_mod_cast h2
   omega
  ·rw[if_neg k] at hs'⊢
   rw[if_neg k,Es]
   have h1:=ih (by omega)
   simp only[al,ak,aG]
   omega
 ·intro t a b e wa wb iha ihb hs
  have hra:=eX wa
  have hrb:=eX wb
  have k:=no7 (.inl e)
  have hs':min ((1:Int)+(if t.1=7 then (szX a+3)*t.2.2.2 else szX a)+(if t.1=7 then (szX b+3)*t.2.2.2 else szX b)) 100000<100000:=hs
  show _<=min ((1:Int)+(if t.1=7 then (szX a+3)*t.2.2.2 else szX a)+(if t.1=7 then (szX b+3)*t.2.2.2 else szX b)) 100000
  rw[if_neg k,if_neg k] at hs'⊢
  rw[exp2 k,uO]
  have h1:=iha (by omega)
  have h2:=ihb (by omega)
  simp only[al,ak,aG]
  omega
theorem CT {x:Tr Tok} : ∀(h n:Nat) (low:Int),h<n->h<=3->0<=low->low<=3->jN n x low (h:Int)=some (IC x h low)
 | 0,n+1,low,_,_,_,_=>by
  rw[jN,if_pos (by rfl)];rfl
 | h+1,n+1,low,h1,h2,h3,h4=>by
  rw[jN,if_neg (by simp;omega),fa (n:=low - 1) (by omega) (by omega),fa (n:=((h+1:Nat):Int) - 1) (by omega) (by omega)]
  rw[show ((h+1:Nat):Int) - 1=(h:Int) from by omega,CT h n (max 0 (low - 1)) (by omega) (by omega) (by omega) (by omega)];simp only[aa]
  rw[IC]
  by_cases c:0<low
  ·rw[if_pos (by simpa using c),if_pos c]
  ·rw[if_neg (by simpa using c),if_neg c];rfl
theorem J4 {a b:List Tok} {t:Tok} (h:a.length+b.length<=1000000):kW a b t=some ((a++b)++ [t]):=by
 unfold kW gz
 rw[aL (by simp only[al,ak,aG];omega)];simp only[aa,List.nil_append]
 rw[aL (by omega)];simp only[aa]
 rw[aL (by simp only[al,ak,aG];omega)];rfl
theorem Pb {x:Tr Tok} : ∀(h n:Nat) (low:Int),h<n->h<=3->0<=low->low<=3->(flat x).length<=100000->jK n (flat x) low (h:Int)=some (flat (IC x h low))
 | 0,n+1,low,_,_,_,_,_=>by
  rw[jK,if_pos (by rfl),IC,wi];rfl
 | h+1,n+1,low,h1,h2,h3,h4,h5=>by
  rw[jK,if_neg (by simp;omega),fa (n:=low - 1) (by omega) (by omega),fa (n:=((h+1:Nat):Int) - 1) (by omega) (by omega)]
  rw[show ((h+1:Nat):Int) - 1=(h:Int) from by omega,Pb h n (max 0 (low - 1)) (by omega) (by omega) (by omega) (by omega) h5];simp only[aa]
  have hl:=Ev x h (max 0 (low - 1))
  have hl3:((flat x).length+3)*h<=100003*3:=Nat.mul_le_mul (by omega) (by omega)
  rw[J4 (by omega),IC];simp only[aa]
  by_cases c:0<low
  ·rw[if_pos (by simpa using c),if_pos c,uO]
  ·rw[if_neg (by simpa using c),if_neg c,uO,uO,wi]
   show (o6 2).bind _=_
   unfold o6;simp only[aa]
   rw[J4 (by simp only[al,ak,aG];omega)];rfl
theorem wj:1000000000000<=gl:=by rw[PY];unfold aX;omega
theorem R5 {x:Tr Tok} (h:WT x): ∀n,(flat x).length<=n->bD n x=some (rb x):=by
 have hF:=wj
 refine WT.ind (p:=fun x=> ∀n,(flat x).length<=n->bD n x=some (rb x)) ?_ ?_ ?_ h
 ·intro t e n hn
  rw[B5] at hn
  have k:=no7 (.inr e)
  match n,hn with
  | n+1,_ =>
   rw[bD];simp only[pG,aa]
   rw[if_neg (by simpa using k),Yk k]
   have hL:ax (bt (bD n) (t,[])) aX (0,t.1,t.2.1,t.2.2.1,t.2.2.2,[])=some (.brk (0,t.1,t.2.1,t.2.2.1,t.2.2.2,[])):=bq (f:=bt (bD n) (t,[])) (fun i=>((i:Int),t.1,t.2.1,t.2.2.1,t.2.2.2,PI (([] :List (Tr Tok)).take i))) 0 (fun i hi=>by omega) (by unfold bt;simp) (by unfold aX;omega)
   rw[aw hL]
   all_goals rfl
 ·intro t a e wa ih n hn
  rw[Es,al] at hn
  match n,hn with
  | n+1,hn =>
   have ia:=ih n (by simp at hn;omega)
   rw[bD,Yj];simp only[pG,aa]
   rcases R3 e with ⟨k1,k2⟩ | ⟨k1,k2,k3⟩
   ·rw[if_neg (by simp;omega),if_neg (by omega)]
    have hL:ax (bt (bD n) (t,[a])) aX (0,t.1,t.2.1,t.2.2.1,t.2.2.2,[])=some (.brk (1,t.1,t.2.1,t.2.2.1,t.2.2.2,[rb a])):=bq (f:=bt (bD n) (t,[a])) (fun i=>((i:Int),t.1,t.2.1,t.2.2.1,t.2.2.2,[rb a].take i)) 1 (fun i hi=>by
     obtain rfl:i=0:=by omega
     unfold bt
     simp only
     rw[if_pos (by simp),aF (by omega) (by simp),zb];simp only[aa]
     rw[ia];simp only[aa]
     rw[aL (by simp)];rfl) (by unfold bt;simp) (by unfold aX;omega)
    rw[aw hL]
    all_goals rfl
   ·have h7:=Ba (show 0<=ar t by omega) k3
    rw[if_pos k2,if_pos k3,show aQ [a] 0=some a from rfl];simp only[aa]
    rw[ia];simp only[aa]
    have:=CT (x:=rb a) t.2.2.2.toNat gl t.2.2.1 (by omega) (by omega) (by omega) (by omega)
    rw[Int.toNat_of_nonneg (by omega)] at this
    rw[this];rfl
 ·intro t a b e wa wb iha ihb n hn
  rw[uO,al,al] at hn
  have k:=no7 (.inl e)
  match n,hn with
  | n+1,hn =>
   have ia:=iha n (by simp at hn;omega)
   have ib:=ihb n (by simp at hn;omega)
   rw[bD,exp2 k];simp only[pG,aa]
   rw[if_neg (by simpa using k)]
   have hL:ax (bt (bD n) (t,[a,b])) aX (0,t.1,t.2.1,t.2.2.1,t.2.2.2,[])=some (.brk (2,t.1,t.2.1,t.2.2.1,t.2.2.2,[rb a,rb b])):=bq (f:=bt (bD n) (t,[a,b])) (fun i=>((i:Int),t.1,t.2.1,t.2.2.1,t.2.2.2,[rb a,rb b].take i)) 2 (fun i hi=>by
    have:i=0\/i=1:=by omega
    rcases this with rfl | rfl
    ·unfold bt
     simp only
     rw[if_pos (by simp),aF (by omega) (by simp),zb];simp only[aa]
     rw[ia];simp only[aa]
     rw[aL (by simp)];rfl
    ·unfold bt
     simp only
     rw[if_pos (by simp),aF (by omega) (by simp),O9];simp only[aa]
     rw[ib];simp only[aa]
     rw[aL (by simp)];rfl) (by unfold bt;simp) (by unfold aX;omega)
   rw[aw hL]
   all_goals rfl
theorem Pc {x:Tr Tok} (h:WT x): ∀n out,(flat x).length<=n->out.length+(flat x).length<=1000000->bB n x out=some (out++flat x):=by
 refine WT.ind (p:=fun x=> ∀n out,(flat x).length<=n->out.length+(flat x).length<=1000000->bB n x out=some (out++flat x)) ?_ ?_ ?_ h
 ·intro t e n out hn hl
  rw[B5] at hn hl⊢
  simp only[ak,aG] at hl
  match n,hn with
  | n+1,_ =>
   rw[bB];simp only[pG,aa]
   have hL:ax (be (bB n) (t,[])) aX (0,out)=some (.brk (0,out)):=bq (f:=be (bB n) (t,[])) (fun i=>((i:Int),out)) 0 (fun i hi=>by omega) (by unfold be;simp) (by unfold aX;omega)
   rw[aw hL]
   simp only
   rw[aL (by simp;omega)];rfl
 ·intro t a e wa ih n out hn hl
  rw[Es] at hn hl⊢
  simp only[al,ak,aG] at hn hl
  match n,hn with
  | n+1,hn =>
   rw[bB];simp only[pG,aa]
   have hL:ax (be (bB n) (t,[a])) aX (0,out)=some (.brk (1,out++flat a)):=bq (f:=be (bB n) (t,[a])) (fun i=>((i:Int),if i=0 then out else out++flat a)) 1 (fun i hi=>by
    obtain rfl:i=0:=by omega
    unfold be
    simp only
    rw[if_pos (by simp),aF (by omega) (by simp),zb];simp only[aa,if_true]
    rw[ih n _ (by omega) (by omega)];rfl) (by unfold be;simp) (by unfold aX;omega)
   rw[aw hL]
   simp only
   rw[aL (by simp;omega)];simp
 ·intro t a b e wa wb iha ihb n out hn hl
  rw[uO] at hn hl⊢
  simp only[al,ak,aG] at hn hl
  match n,hn with
  | n+1,hn =>
   rw[bB];simp only[pG,aa]
   have hL:ax (be (bB n) (t,[a,b])) aX (0,out)=some (.brk (2,(out++flat a)++flat b)):=bq (f:=be (bB n) (t,[a,b])) (fun i=>((i:Int),if i=0 then out else if i=1 then out++flat a else (out++flat a)++flat b)) 2 (fun i hi=>by
    have:i=0\/i=1:=by omega
    rcases this with rfl | rfl
    ·unfold be
     simp only
     rw[if_pos (by simp),aF (by omega) (by simp),zb];simp only[aa,if_true]
     rw[iha n _ (by omega) (by omega)];rfl
    ·unfold be
     simp only
     rw[if_pos (by simp),aF (by omega) (by simp),O9];simp only[aa,if_true]
     rw[ihb n _ (by omega) (by simp;omega)];rfl) (by unfold be;simp) (by unfold aX;omega)
   rw[aw hL]
   simp only
   rw[aL (by simp;omega)];simp
theorem R6 {x:Tr Tok} (h:WT x): ∀n,(flat x).length<=n->(flat x).length<=1000000->szX x<=50000->cO n (flat x)=some (flat (rb x)):=by
 have hF:=wj
 refine WT.ind (p:=fun x=> ∀n,(flat x).length<=n->(flat x).length<=1000000->szX x<=50000->cO n (flat x)=some (flat (rb x))) ?_ ?_ ?_ h
 ·intro t e n hn hl hs
  rw[B5] at hn hl⊢
  match n,hn with
  | n+1,_ =>
   have hk:=Xz e
   rw[cO]
   have:=(mT (A:=[]) (t:=t) (by simp)).1
   rw[List.nil_append] at this
   rw[this];simp only[aa]
   rw[R2 (.inr e)];simp only[aa,hk.1,hk.2,Bool.false_eq_true,if_false]
   rw[Yk (no7 (.inr e)),B5]
 ·intro t a e wa ih n hn hl hs
  have hs':min ((1:Int)+(if t.1=7 then (szX a+3)*t.2.2.2 else szX a)) 100000<=50000:=hs
  rw[Es] at hn hl⊢
  simp only[al,ak,aG] at hn hl
  match n,hn with
  | n+1,hn =>
   have hr:=eX wa
   have hsa:szX a<=50000:=by
    by_cases k:t.1=7
    ·rw[if_pos k] at hs'
     have h7:=Ba (show 0<=ar t by omega) k
     have hge:szX a+3<=(szX a+3)*t.2.2.2:=by
      have:=Int.mul_le_mul_of_nonneg_left (c:=szX a+3) h7.2.1 (by omega)
      omega
     omega
    ·rw[if_neg k] at hs';omega
   have hla:=Ew wa (by omega)
   rw[cO]
   obtain ⟨l1,l2⟩:=mT (A:=flat a) (t:=t) (by omega)
   rw[l1];simp only[aa]
   rw[R2 (.inl e)];simp only[aa,Bool.false_eq_true,if_false]
   rw[l2,Int.toNat_natCast,List.take_left,chk_of (by simp only[al,ak,aG];omega)];simp only[aa]
   rw[ih n (by omega) (by omega) hsa,Yj];simp only[aa]
   rcases R3 e with ⟨k1,k2⟩ | ⟨k1,k2,k3⟩
   ·rw[if_pos k1,if_neg (by omega),J4 (by simp;omega),Es];simp
   ·have h7:=Ba (show 0<=ar t by omega) k3
    rw[if_neg (by simp[k1]),if_pos k2,if_pos k3]
    have:=Pb (x:=rb a) t.2.2.2.toNat gl t.2.2.1 (by omega) (by omega) (by omega) (by omega) (by omega)
    rw[Int.toNat_of_nonneg (by omega)] at this
    rw[this];rfl
 ·intro t a b e wa wb iha ihb n hn hl hs
  have k:=no7 (.inl e)
  have hs':min ((1:Int)+(if t.1=7 then (szX a+3)*t.2.2.2 else szX a)+(if t.1=7 then (szX b+3)*t.2.2.2 else szX b)) 100000<=50000:=hs
  rw[if_neg k,if_neg k] at hs'
  rw[uO] at hn hl⊢
  obtain ⟨p1,p2,p3,p4⟩:=Bc (a:=a) (t:=t) wb hl
  simp only[al,ak,aG] at hn hl
  match n,hn with
  | n+1,hn =>
   have hra:=eX wa
   have hrb:=eX wb
   have hla:=Ew wa (by omega)
   have hlb:=Ew wb (by omega)
   rw[cO]
   obtain ⟨l1,l2⟩:=mT (A:=flat a++flat b) (t:=t) (by rw[al];omega)
   rw[l1];simp only[aa]
   rw[ZD e];simp only[aa,if_true]
   rw[l2,p1,p2,chk_of (by simp only[al,ak,aG];omega)];simp only[aa]
   rw[chk_of (by simp only[al,ak,aG];omega),p3,p4];simp only[aa]
   rw[iha n (by omega) (by omega) (by omega),chk_of (by simp only[al,ak,aG];omega)];simp only[aa]
   rw[ihb n (by have:=wa.pos;omega) (by omega) (by omega)];simp only[aa]
   rw[J4 (by omega),exp2 k,uO];rfl
def Ly (e:List Tok):List Tok×Bool:=
 if decide (e.length<=24)&&isX e then (if 5000<szX (yL e) then ([],false) else (if 400<(flat (rb (yL e))).length then ([],false) else (flat (rb (yL e)),true))) else ([],false)
theorem IE {e:List Tok} (he:e.length<=1048576):lz e=some (Ly e)/\lH e=some (Ly e):=by
 have hF:=wj
 unfold lz lH Ly
 rw[IA he,IB he];simp only[aa]
 by_cases c:(decide (e.length<=24)&&isX e)=true
 ·rw[if_pos c,if_pos c,if_pos c,Eu he];simp only[aa]
  rw[aj] at c
  obtain ⟨x,h1,hw,rfl⟩:=O6 c.2
  have h24:(flat x).length<=24:=by simpa using c.1
  have hr:=eX hw
  rw[xm hw,XA hw gl (by omega) (by omega),VP hw gl (by omega)];simp only[aa]
  by_cases c2:5000<szX x
  ·have c2':decide (szX x>5000)=true:=by simpa using c2
   simp only[gt_iff_lt,c2,decide_true,if_true,and_self]
  ·have c2':decide (szX x>5000)=false:=by simpa using c2
   simp only[gt_iff_lt,c2,decide_false,if_false,Bool.false_eq_true]
   have hl:=Ew hw (by omega)
   rw[R6 hw gl (by omega) (by omega) (by omega),R5 hw gl (by omega)];simp only[aa]
   unfold p8
   rw[Pc (Tv hw) gl [] (by omega) (by simp;omega)];simp only[aa,List.nil_append]
   by_cases c3:400<(flat (rb x)).length
   ·have c3':decide (((flat (rb x)).length:Int)>400)=true:=decide_eq_true (by omega)
    simp only[c3',c3,decide_true,if_true,and_self]
   ·have c3':decide (((flat (rb x)).length:Int)>400)=false:=decide_eq_false (by omega)
    simp only[c3',c3,decide_false,if_false,Bool.false_eq_true,and_self]
 ·rw[if_neg c,if_neg c,if_neg c];exact ⟨rfl,rfl⟩
theorem VQ {e:List Tok} (h:(Ly e).2=true): ∃y,WT y/\(Ly e).1=flat y/\(flat y).length<=400:=by
 unfold Ly at h⊢
 split at h
 ·rename_i c
  rw[if_pos c]
  rw[aj] at c
  obtain ⟨x,h1,hw,rfl⟩:=O6 c.2
  rw[xm hw] at h⊢
  split at h
  ·cases h
  ·rename_i c2
   rw[if_neg c2]
   split at h
   ·cases h
   ·rename_i c3
    rw[if_neg c3]
    exact ⟨_,Tv hw,rfl,by omega⟩
 ·cases h
end D
namespace D
open Go.RowKit
def Pd (out:List Bool) (t:Int):Bool:=decide (t≥0)&&nth out t
def hit (out:List Bool) (row:List Int):Bool:=row.any (Pd out)
def yi (a:AutT) (out:List Bool) (s:Nat):List Bool:=if hit out (nth a.2.2 s) then out.set s true else out
def jU (a:AutT) (out:List Bool):Nat->List Bool
 | 0=>out
 | s+1=>yi a (jU a out s) s
def cnt (out:List Bool):Nat:=out.count true
theorem XB (out:List Bool):cnt out<=out.length:=List.count_le_length
theorem J5 {out:List Bool} {s:Nat} (h:s<out.length) (k:out[s] =true):out.set s true=out:=by
 refine List.ext_getElem (by simp) fun i h1 h2=>?_
 rw[List.getElem_set]
 split
 ·rename_i e;subst e;exact k.symm
 ·rfl
theorem VR {out:List Bool} {s:Nat} (h:s<out.length) (k:out[s] =false):cnt (out.set s true)=cnt out+1:=by
 unfold cnt
 rw[List.count_set h];simp[k]
section
variable {a:AutT} {n:Nat}
theorem Ex (a:AutT) (out:List Bool) (s:Nat):(yi a out s).length=out.length:=by unfold yi;split <;> simp
theorem kL (a:AutT) (out:List Bool): ∀s,(jU a out s).length=out.length
 | 0=>rfl
 | s+1=>by rw[jU,Ex,kL a out s]
theorem yj {out:List Bool} {s:Nat} (h:s<out.length):(yi a out s=out/\ ¬(hit out (nth a.2.2 s)=true/\nth out s=false))\/(cnt (yi a out s)=cnt out+1/\hit out (nth a.2.2 s)=true/\nth out s=false):=by
 unfold yi
 rw[bZ h]
 cases hh:hit out (nth a.2.2 s) with
 | false=>exact .inl ⟨by simp,by simp⟩
 | true =>
  cases hk:out[s] with
  | true=>exact .inl ⟨by simp[J5 h hk],by simp⟩
  | false=>exact .inr ⟨by simp[VR h hk],rfl,rfl⟩
theorem xo {out:List Bool} : ∀s,s<=out.length->(jU a out s=out/\cnt (jU a out s)=cnt out)\/cnt out<cnt (jU a out s)
 | 0,_=>.inl ⟨rfl,rfl⟩
 | s+1,hs=>by
  have hl:s<(jU a out s).length:=by rw[kL];omega
  have ih:=xo (out:=out) s (by omega)
  rw[jU]
  rcases yj (a:=a) hl with ⟨e,-⟩ | ⟨e,-,-⟩
  ·rw[e];exact ih
  ·rcases ih with ⟨-,h2⟩ | h
   ·exact .inr (by omega)
   ·exact .inr (by omega)
def it (a:AutT):Nat->List Bool
 | 0=>a.2.1
 | j+1=>jU a (it a j) a.2.1.length
theorem pH (a:AutT): ∀j,(it a j).length=a.2.1.length
 | 0=>rfl
 | j+1=>by rw[it,kL,pH a j]
theorem Tw (a:AutT) (j:Nat):cnt (it a j)<=a.2.1.length:=by rw[<-pH a j];exact XB _
theorem IF (a:AutT) (j:Nat):(it a (j+1)=it a j)\/cnt (it a j)<cnt (it a (j+1)):=by
 rcases xo (a:=a) (out:=it a j) a.2.1.length (by rw[pH];exact aC _) with h | h
 ·exact .inl h.1
 ·exact .inr h
theorem Tx {j k:Nat} (h:it a (j+1)=it a j) (hk:j<=k):it a k=it a j:=by
 induction hk with
 | refl=>rfl
 | step _ ih=>rw[it,ih];exact h
theorem Pe {j k:Nat} (h:it a (j+1)=it a j) (h':it a (k+1)=it a k):it a j=it a k:=by
 rcases Nat.le_total j k with e | e
 ·exact (Tx h e).symm
 ·exact Tx h' e
theorem VS (a : AutT) : it a (a.2.1.length + 1) = it a a.2.1.length := by
  have key : ∀ j, it a (j + 1) = it a j \/ j + 1 <= cnt (it a (j + 1)) := by
    intro j
    induction j with
    | zero => rcases IF a 0 with h | h
              · exact .inl h
              · exact .inr (by omega)
    | succ j ih =>
      rcases IF a (j + 1) with h | h
      · exact .inl h
      · rcases ih with h' | h'
        · left; rw [it, h']; exact h'
        · exact .inr (by omega)
  rcases key a.2.1.length with h | h
  · exact h
  · have := Tw a (a.2.1.length + 1); omega
def live (a:AutT):List Bool:=it a a.2.1.length
theorem uP (a:AutT):(live a).length=a.2.1.length:=pH a _
theorem J6 {α:Type} [Inhabited α] {row:List α} {p:α->Bool} {k:Nat} (h:k<row.length):(row.take (k+1)).any p=((row.take k).any p || p (nth row (k:Int))):=by
 rw[List.take_succ_eq_append_getElem h,List.any_append,bZ h];simp
section
variable (V:VA a n) (hn:n<=1000000)
include V hn
theorem Pf {out:List Bool} {s:Nat} (hs:s<n) (hl:out.length=n):ax (iV a (out,(s:Int))) aX (out,0)=some (.brk (yi a out s,9)):=by
 have hr:=V.rowAt (s:=s) (by omega) (by omega)
 have hls:s<out.length:=by omega
 have:=bq (f:=iV a (out,(s:Int))) (fun k=>(if ((nth a.2.2 (s:Int)).take k).any (Pd out) then out.set s true else out,(k:Int))) 9 (fun k hk=>by
  unfold iV
  simp only
  rw[if_pos (by simp;omega),V.get (by omega) (by omega)];simp only[aa]
  rw[V.get2 (by omega) (by omega) hk];simp only[aa]
  rw[J6 (by omega),show nth (nth a.2.2 (s:Int)) (k:Int)=mv a s k from rfl]
  simp only[af (show k<9223372036854775807 by omega)]
  by_cases c:mv a s k≥0
  ·have hset:(out.set s true).length=n:=by simp[hl]
   have hm:=(V.mv (s:=s) (k:=k) (by omega) (by omega) hk).2
   rw[if_pos (by simpa using c)]
   by_cases q:((nth a.2.2 (s:Int)).take k).any (Pd out)=true
   ·simp only[q,if_true,Bool.true_or]
    rw[aF c (by rw[hset];exact hm),aF (by omega) (by rw[hset];omega)];simp only[aa,Int.toNat_natCast]
    split <;> simp
   ·simp only[q,Bool.false_eq_true,if_false,Bool.false_or,Pd]
    rw[aF c (by rw[hl];exact hm),aF (by omega) (by rw[hl];omega)];simp only[aa,Int.toNat_natCast]
    cases hc:nth out (mv a s k) <;> simp[hc,c]
  ·rw[if_neg (by simpa using c)]
   simp[Pd,c]) (by unfold iV;simp) (by unfold aX;omega)
 have e9:(nth a.2.2 (s:Int)).take 9=nth a.2.2 (s:Int):=List.take_of_length_le (by omega)
 rw[e9] at this
 exact this
theorem GO {out:List Bool} (hl:out.length=n):ax (iW a) aX (out,0)=some (.brk (jU a out n,(n:Int))):=by
 have hlen:=V.len
 refine bq (f:=iW a) (fun s=>(jU a out s,(s:Int))) n (fun s hs=>?_) ?_ (tV (by omega))
 ·unfold iW
  simp only
  rw[if_pos (by simp;omega),aw (Pf V hn hs (by rw[kL];exact hl)),af (by omega)]
  rfl
 ·unfold iW
  simp only
  rw[if_neg (by simp;omega)]
theorem Tz:kX a=some (live a):=by
 have hlen:=V.len
 unfold kX
 rw[aL (by simp;omega)];simp only[aa,List.nil_append]
 have:=bq (f:=lB a) (fun j=>(it a j,(j:Int))) n (fun j hj=>by
  unfold lB
  simp only
  rw[if_pos (by simp;omega),aw (GO V hn (by rw[pH];exact hlen)),af (by omega),it,hlen]) (by
  unfold lB
  simp only
  rw[if_neg (by simp;omega)]) (tV (by omega))
 exact (aw this).trans (by simp[live,hlen])
theorem Pg {out:List Bool} {g:Bool} {s:Nat} (hs:s<n) (hl:out.length=n):ax (dm (g,(s:Int),out) (nth a.2.2 (s:Int))) aX (g,0,out)=some (.brk (g || (hit out (nth a.2.2 (s:Int)) && !nth out (s:Int)),9,yi a out s)):=by
 have hr:=V.rowAt (s:=s) (by omega) (by omega)
 have hls:s<out.length:=by omega
 have:=bq (f:=dm (g,(s:Int),out) (nth a.2.2 (s:Int))) (fun k=>(g || (((nth a.2.2 (s:Int)).take k).any (Pd out) && !nth out (s:Int)),(k:Int),if ((nth a.2.2 (s:Int)).take k).any (Pd out) then out.set s true else out)) 9 (fun k hk=>by
  unfold dm
  simp only
  rw[if_pos (by simp[hr];omega),V.get2 (by omega) (by omega) hk];simp only[aa]
  rw[J6 (by omega),show nth (nth a.2.2 (s:Int)) (k:Int)=mv a s k from rfl]
  simp only[af (show k<9223372036854775807 by omega)]
  by_cases c:mv a s k≥0
  ·have hset:(out.set s true).length=n:=by simp[hl]
   have hm:=(V.mv (s:=s) (k:=k) (by omega) (by omega) hk).2
   rw[if_pos (by simpa using c)]
   by_cases q:((nth a.2.2 (s:Int)).take k).any (Pd out)=true
   ·simp only[q,if_true,Bool.true_or]
    have hself:nth (out.set s true) (s:Int)=true:=by
     have:=GE (xs:=out) (i:=(s:Int)) (x:=true) (by omega) (by omega)
     simpa using this
    rw[aF c (by rw[hset];exact hm),aF (by omega) (by rw[hset];omega)];simp only[aa,Int.toNat_natCast,hself,if_true]
    split <;> simp
   ·simp only[q,Bool.false_eq_true,if_false,Bool.false_or,Pd,Bool.false_and,Bool.or_false]
    rw[aF c (by rw[hl];exact hm),aF (by omega) (by rw[hl];omega)];simp only[aa,Int.toNat_natCast]
    cases hc:nth out (mv a s k) with
    | false=>simp[c]
    | true =>
     cases hd:nth out (s:Int) with
     | false=>simp[c]
     | true =>
      rw[bZ hls] at hd
      simp[c,J5 hls hd]
  ·rw[if_neg (by simpa using c)]
   simp[Pd,c]) (by unfold dm;simp[hr]) (by unfold aX;omega)
 have e9:(nth a.2.2 (s:Int)).take 9=nth a.2.2 (s:Int):=List.take_of_length_le (by omega)
 rw[e9] at this
 have e0:(g || (((nth a.2.2 (s:Int)).take 0).any (Pd out) && !nth out (s:Int)))=g:=by simp
 rw[e0] at this
 exact this
theorem GP {out:List Bool} (hl:out.length=n): ∃g,ax (dn a) aX (false,0,out)=some (.brk (g,(n:Int),jU a out n))/\(g=true↔cnt out<cnt (jU a out n)):=by
 have hlen:=V.len
 have hnl:=V.nlen
 obtain ⟨s',e,⟨g,rfl,hg⟩⟩:=nP (f:=dn a) (fun s st=> ∃g,st=(g,(s:Int),jU a out s)/\(g=true↔cnt out<cnt (jU a out s))) n (by
  rintro s st hs ⟨g,rfl,hg⟩
  have hpl:(jU a out s).length=n:=by rw[kL];exact hl
  unfold dn
  simp only
  rw[if_pos (by simp;omega),V.get (by omega) (by omega)];simp only[aa]
  rw[aw (Pg V hn hs hpl),af (by omega)]
  refine ⟨_,rfl,_,rfl,?_⟩
  rw[Bool.or_eq_true,aj,Bool.not_eq_true',hg,jU]
  have hc:=xo (a:=a) (out:=out) s (by omega)
  rcases yj (a:=a) (out:=jU a out s) (s:=s) (by omega) with ⟨e,k⟩ | ⟨e,k⟩
  ·rw[e];exact ⟨fun h=>h.elim id fun h=>absurd h k,.inl⟩
  ·rw[e]
   exact ⟨fun _=>by rcases hc with ⟨-,h⟩ | h <;> omega,fun _=>.inr k⟩) (by
  rintro s ⟨g,rfl,hg⟩
  unfold dn
  simp only
  rw[if_neg (by simp;omega)]) ⟨false,rfl,by simp[jU]⟩ (tV (by omega))
 exact ⟨g,e,hg⟩
theorem XC:eN a=some (live a):=by
 have hlen:=V.len
 unfold eN
 rw[aL (by simp;omega)];simp only[aa,List.nil_append]
 obtain ⟨o,e,i,rfl,hi⟩:=cT (f:=hO a) (fun i s=> ∃b,s=(b,it a i)/\(b=true->i<=cnt (it a i))/\(b=false->it a (i+1)=it a i)) (fun o=> ∃i,o= .brk (false,it a i)/\it a (i+1)=it a i) (n+1) (s:=(true,a.2.1)) (by
  rintro i s hi ⟨b,rfl,h1,h2⟩
  unfold hO
  simp only
  cases b with
  | false=>exact .inr ⟨_,by rw[if_neg (by simp)],(fun s' e=>by cases e),i,rfl,h2 rfl⟩
  | true =>
   have hc:=Tw a i
   have h1:=h1 rfl
   obtain ⟨g,e,hg⟩:=GP V hn (out:=it a i) (by rw[pH];exact hlen)
   have ee:jU a (it a i) n=it a (i+1):=by rw[it,hlen]
   rw[ee] at e hg
   refine .inl ⟨by omega,(g,it a (i+1)),by rw[if_pos rfl,aw e],g,rfl,fun h=>?_,fun h=>?_⟩
   ·have:=hg.1 h;omega
   ·have hs:it a (i+1)=it a i:=by
     rcases IF a i with h' | h'
     ·exact h'
     ·rw[<-hg,h] at h';cases h'
    rw[it,hs];exact hs) ⟨true,rfl,fun _=>Nat.zero_le _,fun h=>by cases h⟩ (tV (by omega))
 rw[aw e]
 have:=Pe hi (VS a)
 simp[live,this]
end
end
end D
namespace D
open Go.RowKit
def nothing:AutT:=(0,[false],[[-1,-1,-1,-1,-1,-1,-1,-1,-1]])
theorem Ph:oN=some nothing:=by kernel_rfl
theorem Pi:uo=some nothing:=by kernel_rfl
theorem Pj {n:Nat} (h:n<=1000000):iOk (n:Int)=true:=by
 have h1:IntKind.i64.min= -9223372036854775808:=by decide
 have h2:IntKind.i64.max=9223372036854775807:=by decide
 simp only[iOk,Lit.wf,h1,h2,aj,decide_eq_true_eq]
 omega
theorem take_one {α:Type} [Inhabited α] {xs:List α} {k:Nat} (h:k<xs.length):xs.take (k+1)=xs.take k++ [nth xs (k:Int)]:=by
 rw[List.take_succ_eq_append_getElem h,bZ h]
theorem jV {α:Type} [Inhabited α] {xs ys:List α} (h:xs <+:ys) {i:Int} (h0:0<=i) (h1:i<xs.length):nth ys i=nth xs i:=by
 obtain ⟨t,rfl⟩:=h
 exact ij h0 h1
structure NumOk {κ:Type} [DecidableEq κ] (nx:κ->List (Option κ)) (first:κ) (G:κ->Prop) (B:Nat):Prop where
 g0:G first
 gn: ∀x,G x-> ∀y,some y∈nx x->G y
 len: ∀x,G x->(nx x).length=9
 bound: ∀l:List κ,l.Nodup->(∀x∈l,G x)->l.length<=B
section
variable {κ:Type} [DecidableEq κ] [Inhabited κ] {nx:κ->List (Option κ)} {first:κ} {G:κ->Prop} {B:Nat}
theorem NumOk.le (H:NumOk nx first G B) (i:Nat):(bfS nx first i).length<=B:=H.bound _ (nQ i) (kJ H.g0 H.gn i)
theorem NumOk.at (H:NumOk nx first G B) {i:Nat} (h:i<(bfS nx first i).length):G (nth (bfS nx first i) (i:Int)):=kJ H.g0 H.gn i _ (ct (by omega) (by omega))
theorem kM {i:Nat} (h:i<(bfS nx first i).length):bfS nx first (i+1)=nbS (bfS nx first i) (nx (nth (bfS nx first i) (i:Int))):=by rw[D7 h,bZ h]
theorem wk {i:Nat} (h:i<(bfS nx first i).length):bfR nx first (i+1)=bfR nx first i++ [nbR (bfS nx first i) (nx (nth (bfS nx first i) (i:Int)))]:=by rw[v7 h,bZ h]
theorem ze {β:Type} {acc:κ->β} {i:Nat} (h:i<(bfS nx first i).length):((bfS nx first (i+1)).take (i+1)).map acc=((bfS nx first i).take i).map acc++ [acc (nth (bfS nx first i) (i:Int))]:=by
 have hp:=bR (nx:=nx) (first:=first) i
 have hl:=hp.length_le
 have e:(bfS nx first (i+1)).take i=(bfS nx first i).take i:=by
  obtain ⟨t,ht⟩:=hp
  rw[<-ht,List.take_append_of_le_length (by omega)]
 rw[take_one (by omega),aO,e,jV hp (by omega) (by omega)];rfl
def MapOf (M:List (κ×Int)) (l:List κ):Prop:=M.length=l.length/\ ∀x,M.lookup x=if x∈l then some (l.idxOf x:Int) else none
theorem MapOf.one (x:κ):MapOf [(x,0)] [x]:=by
 refine ⟨rfl,fun y=>?_⟩
 rw[List.lookup_cons]
 by_cases e:y=x
 ·subst e;simp
 ·simp only[show (y==x)=false from by simp[e]];simp[e]
theorem MapOf.put {M:List (κ×Int)} {l:List κ} (h:MapOf M l) {x:κ} (hx:x∉l):MapOf ((x,(l.length:Int))::M) (l++ [x]):=by
 refine ⟨by simp[h.1],fun y=>?_⟩
 rw[List.lookup_cons]
 by_cases e:y=x
 ·subst e
  simp[List.idxOf_append,hx]
 ·simp only[show (y==x)=false from by simp[e],h.2 y,List.mem_append,List.mem_singleton,e,or_false]
  by_cases k:y∈l
  ·simp[k,List.idxOf_append]
  ·simp[k]
end
section
variable {nx:Int->List (Option Int)} {first:Int} {G:Int->Prop} {B:Nat}
theorem GQ {p3:Int->Int->Option (Int×Bool)} {l:List Int} {M:List (Int×Int)} {os:List (Option Int)} {acs:List Bool} {rws:List (List Int)} {i:Nat}
  (hi:i<l.length) (hos:os.length=9) (hM:MapOf M l) (hok: ∀y,some y∈os->iOk y=true) (hB: ∀k,(nbS l (os.take k)).length<=1000000)
  (hp: ∀(k:Nat) (hk:k<9),∃j,p3 (nth l (i:Int)) (k:Int)=some (match nth os (k:Int) with | some y=>(y,true) | none=>(j,false))) :
  ∃M',ax (dO p3 (l,M,(i:Int),0,acs,rws)) aX (l,M,[],0)=some (.brk (nbS l os,M',nbR l os,9))/\MapOf M' (nbS l os):=by
 obtain ⟨s',e,M',rfl,hM'⟩:=nP (f:=dO p3 (l,M,(i:Int),0,acs,rws)) (fun k s=> ∃M',s=(nbS l (os.take k),M',nbR l (os.take k),(k:Int))/\MapOf M' (nbS l (os.take k))) 9 (by
  rintro k s hk ⟨M1,rfl,hM1⟩
  have hpre:=lh l (os.take k)
  have hlen:=hpre.length_le
  have hBk:=hB k
  obtain ⟨j,hj⟩:=hp k hk
  have hrl:(nbR l (os.take k)).length<=9:=by rw[eJ,aA];omega
  unfold dO
  simp only
  rw[if_pos (by simp;omega),aF (by omega) (by omega)];simp only[aa]
  rw[jV hpre (by omega) (by omega),hj,take_one (by omega),vZ,sV]
  simp only[aa,af (show k<9223372036854775807 by omega)]
  cases ho:nth os (k:Int) with
  | none =>
   simp only[Bool.false_eq_true,if_false]
   rw[aL (by simp;omega)]
   exact ⟨_,rfl,M1,rfl,hM1⟩
  | some y =>
   have hy:iOk y=true:=hok y (ho ▸ ct (by omega) (by omega))
   simp only[if_true]
   rw[show chk (iOk y=true)=some () from by unfold chk;rw[if_pos hy]];simp only[aa]
   rw[show lkM M1 y=_ from hM1.2 y]
   by_cases c:y∈nbS l (os.take k)
   ·simp only[c,if_true,Option.isSome_some,Option.getD_some,aa]
    rw[aL (by simp;omega)]
    exact ⟨_,rfl,M1,by rw[my c];rfl,by rw[my c];exact hM1⟩
   ·have hput:Mc M1 iOk iOk y ((nbS l (os.take k)).length:Int)=some ((y,((nbS l (os.take k)).length:Int))::M1):=by
     unfold Mc
     rw[if_pos ⟨by have:=hM1.1;omega,hy,Pj hBk⟩]
    simp only[c,if_false,Option.isSome_none,Bool.false_eq_true,hput,aa]
    rw[aL (by simp;omega)];simp only[aa]
    rw[aL (by simp;omega)]
    refine ⟨_,rfl,(y,((nbS l (os.take k)).length:Int))::M1,?_,?_⟩
    ·rw[lj c];simp only[nbI,pE c]
    ·rw[lj c];exact hM1.put c) (by
  rintro s ⟨M1,rfl,hM1⟩
  unfold dO
  simp) (s:=(l,M,[],0)) ⟨M,rfl,hM⟩ (by unfold aX;omega)
 rw[List.take_of_length_le (by omega)] at e hM'
 exact ⟨M',e,hM'⟩
theorem XD {most:Int} {p2:Int->Option Bool} {p3:Int->Int->Option (Int×Bool)} {acc:Int->Bool} (H:NumOk nx first G B) (hB:B<=1000000) (hmost:(B:Int)<=most) (hok: ∀x,G x->iOk x=true)
  (h2: ∀x,G x->p2 x=some (acc x)) (h3: ∀x (k:Nat),G x->k<9-> ∃j,p3 x (k:Int)=some (match nth (nx x) (k:Int) with | some y=>(y,true) | none=>(j,false))) :
  ∃N,bfE nx first N/\eI first most p2 p3=some ((0,(bfS nx first N).map acc,bfR nx first N),true):=by
 obtain ⟨N,hNB,hN⟩:=Tf (nx:=nx) (first:=first) (H.le)
 refine ⟨N,hN,?_⟩
 unfold eI
 rw[show Mc ([] :List (Int×Int)) iOk iOk first 0=some [(first,0)] from by unfold Mc;rw[if_pos ⟨by simp,hok _ H.g0,by decide⟩]];simp only[aa]
 obtain ⟨s',e,M',rfl,hM'⟩:=nP (f:=bY most p2 p3) (fun i s=> ∃M,s=(bfS nx first i,M,(i:Int),0,((bfS nx first i).take i).map acc,bfR nx first i)/\MapOf M (bfS nx first i)) N (by
  rintro i s hi ⟨M,rfl,hM⟩
  have hlt:=hN.2 i hi
  have hG:=H.at hlt
  have hle:=H.le i
  have hle':=H.le (i+1)
  obtain ⟨M',e,hM'⟩:=GQ (p3:=p3) (l:=bfS nx first i) (M:=M) (os:=nx (nth (bfS nx first i) (i:Int))) (acs:=((bfS nx first i).take i).map acc) (rws:=bfR nx first i) hlt (H.len _ hG) hM (fun y hy=>hok y (H.gn _ hG y hy))
   (fun k=>by
    have:(nbS (bfS nx first i) ((nx (nth (bfS nx first i) (i:Int))).take k)).length<=B:=H.bound _ (sj (nQ i)) fun x hx=>by
     rcases xg.1 hx with hx | hx
     ·exact kJ H.g0 H.gn i x hx
     ·exact H.gn _ hG x (List.mem_of_mem_take hx)
    omega) (fun k hk=>h3 _ k hG hk)
  unfold bY
  simp only
  rw[if_pos (by simp;omega),aw e,<-kM hlt]
  rw[<-kM hlt] at hM'
  have hl2:=(bR (nx:=nx) (first:=first) i).length_le
  simp only
  rw[if_neg (by simp;omega),aF (by omega) (by omega)];simp only[aa]
  rw[jV (bR i) (by omega) (by omega),h2 _ hG];simp only[aa]
  have hr:(bfR nx first i).length=i:=jS fun j hj=>hN.2 j (by omega)
  rw[aL (by simp;omega)];simp only[aa]
  rw[aL (by simp;omega)];simp only[aa,af (show i<9223372036854775807 by omega)]
  exact ⟨_,rfl,M',by rw[ze hlt,wk hlt],hM'⟩) (by
  rintro s ⟨M,rfl,hM⟩
  unfold bY
  simp only
  rw[if_neg (by have:=hN.1;simp;omega)]) (s:=([first],[(first,0)],0,0,[],[])) ⟨_,rfl,MapOf.one first⟩ (tV (by omega))
 rw[aw e]
 simp only
 rw[List.take_of_length_le (by have:=hN.1;omega)]
end
theorem TA {l:List Int} {x:Int} (h:l.length<=9223372036854775807):np l x=some (if x∈l then (l.idxOf x:Int) else -1):=by
 unfold np
 obtain ⟨o,e,hq⟩:=cT (f:=oM l x) (fun i s=>s=(i:Int)/\x∉l.take i) (fun o=>(x∈l/\o= .ret (l.idxOf x:Int))\/(x∉l/\ ∃s,o= .brk s)) l.length (s:=0) (by
  rintro i s hi ⟨rfl,hx⟩
  unfold oM
  by_cases hl:i<l.length
  ·rw[if_pos (by simp;omega),aF (by omega) (by omega)];simp only[aa]
   by_cases c:nth l (i:Int)=x
   ·refine .inr ⟨_,by rw[if_pos (by simpa using c)],(fun s' e=>by cases e),.inl ?_⟩
    have e:l=l.take i++(x::l.drop (i+1)):=by
     rw[<-c,bZ hl,<-List.drop_eq_getElem_cons hl,List.take_append_drop]
    refine ⟨by rw[e];simp,?_⟩
    congr 1
    conv=>rhs;rw[e,List.idxOf_append,if_neg hx,List.idxOf_cons_self]
    simp[aA];first | done | omega
   ·refine .inl ⟨hl,_,by rw[if_neg (by simpa using c)],by rw[af (by omega)],?_⟩
    rw[take_one hl,List.mem_append,List.mem_singleton]
    rintro (h | h)
    ·exact hx h
    ·exact c h.symm
  ·refine .inr ⟨_,by rw[if_neg (by simp;omega)],(fun s' e=>by cases e),.inr ⟨?_,_,rfl⟩⟩
   rwa [List.take_of_length_le (by omega)] at hx) ⟨rfl,by simp⟩ (tV h)
 rcases hq with ⟨hx,rfl⟩ | ⟨hx,s,rfl⟩
 ·rw[cd e,if_pos hx]
 ·rw[aw e,if_neg hx]
section
variable {a:AutT} {n:Nat} {c:List Int} {lv:List Bool} {nx:Int->List (Option Int)} {G:Int->Prop} {B:Nat} {acc:Int->Bool}
def good (n:Nat) (lv:List Bool) (r:Int):Prop:=0<=r/\r<n/\nth lv r=true
def xp (a:AutT) (c:List Int) (lv:List Bool) (r:Int):List (Option Int):=(List.range 9).map fun k=>if mv a r k≥0/\nth lv (mv a r k)=true then some (nth c (mv a r k)) else none
theorem J7 {r:Int} {k:Nat} (hk:k<9):nth (xp a c lv r) (k:Int)=if mv a r k≥0/\nth lv (mv a r k)=true then some (nth c (mv a r k)) else none:=by
 have:k<(xp a c lv r).length:=by simp[xp];omega
 rw[bZ this];simp[xp]
def RepsOf (n:Nat) (lv:List Bool) (c:List Int) (rs l:List Int):Prop:=rs.length=l.length/\ ∀j:Nat,j<l.length->good n lv (nth rs j)/\nth c (nth rs j)=nth l (j:Int)
theorem RepsOf.snoc {rs l:List Int} (h:RepsOf n lv c rs l) {t:Int} (ht:good n lv t):RepsOf n lv c (rs++ [t]) (l++ [nth c t]):=by
 refine ⟨by simp[h.1],fun j hj=>?_⟩
 by_cases e:j<l.length
 ·rw[ij (by omega) (by have:=h.1;omega),ij (by omega) (by omega)];exact h.2 j e
 ·have e:j=l.length:=by simp at hj;omega
  subst e
  have h1:nth (rs++ [t]) (l.length:Int)=t:=by rw[bZ (by simp[h.1])];simp[<-h.1]
  have h2:nth (l++ [nth c t]) (l.length:Int)=nth c t:=by rw[bZ (by simp)];simp
  rw[h1,h2];exact ⟨ht,rfl⟩
theorem Pm (V:VA a n) (hn:n<=1000000) (hc:c.length=n) (hlv:lv.length=n) {l rs:List Int} {acs:List Bool} {rws:List (List Int)} {i:Nat} (hi:i<l.length) (hR:RepsOf n lv c rs l) {os:List (Option Int)} (hos:os.length=9)
  (ho: ∀r,good n lv r->nth c r=nth l (i:Int)->xp a c lv r=os) (hB: ∀k,(nbS l (os.take k)).length<=1000000) :
  ∃rs',ax (gq a c lv (l,rs,(i:Int),0,acs,rws)) aX (l,rs,[],0)=some (.brk (nbS l os,rs',nbR l os,9))/\RepsOf n lv c rs' (nbS l os):=by
 obtain ⟨s',e,rs',rfl,hR'⟩:=nP (f:=gq a c lv (l,rs,(i:Int),0,acs,rws)) (fun k s=> ∃rs',s=(nbS l (os.take k),rs',nbR l (os.take k),(k:Int))/\RepsOf n lv c rs' (nbS l (os.take k))) 9 (by
  rintro k s hk ⟨r1,rfl,hR1⟩
  have hpre:=lh l (os.take k)
  have hlen:=hpre.length_le
  have hBk:=hB k
  have hrl:(nbR l (os.take k)).length<=9:=by rw[eJ,aA];omega
  have hr1:=hR1.1
  obtain ⟨⟨g0,g1,g2⟩,gc⟩:=hR1.2 i (by omega)
  rw[jV hpre (by omega) (by omega)] at gc
  have hsu:=ho _ ⟨g0,g1,g2⟩ gc
  have hok:nth os (k:Int)=if mv a (nth r1 (i:Int)) k≥0/\nth lv (mv a (nth r1 (i:Int)) k)=true then some (nth c (mv a (nth r1 (i:Int)) k)) else none:=by
   rw[<-hsu];exact J7 hk
  have hmv:=V.mv (s:=nth r1 (i:Int)) (k:=k) g0 g1 hk
  unfold gq
  simp only
  rw[if_pos (by simp;omega),aF (xs:=r1) (by omega) (by omega)];simp only[aa]
  rw[V.get g0 g1];simp only[aa]
  rw[V.get2 g0 g1 hk,take_one (by omega),vZ,sV]
  simp only[aa,af (show k<9223372036854775807 by omega)]
  by_cases c1:mv a (nth r1 (i:Int)) k≥0
  ·rw[if_pos (by simpa using c1),aF (xs:=lv) c1 (by omega)];simp only[aa]
   by_cases c2:nth lv (mv a (nth r1 (i:Int)) k)=true
   ·rw[if_pos ⟨c1,c2⟩] at hok
    rw[if_pos c2,aF (xs:=c) c1 (by omega),hok];simp only[aa]
    rw[TA (by omega)];simp only[aa]
    by_cases c3:nth c (mv a (nth r1 (i:Int)) k)∈nbS l (os.take k)
    ·rw[if_pos c3,if_neg (by simp)];simp only[aa]
     rw[aL (by simp;omega)]
     exact ⟨_,rfl,r1,by rw[my c3];rfl,by rw[my c3];exact hR1⟩
    ·rw[if_neg c3,if_pos (by decide)]
     rw[aL (by simp;omega)];simp only[aa]
     rw[aL (by simp;omega)];simp only[aa]
     rw[aL (by simp;omega)];simp only[aa]
     refine ⟨_,rfl,r1++ [mv a (nth r1 (i:Int)) k],?_,?_⟩
     ·rw[lj c3];simp only[nbI,pE c3]
     ·rw[lj c3];exact hR1.snoc ⟨c1,hmv.2,c2⟩
   ·rw[if_neg (fun h=>c2 h.2)] at hok
    rw[if_neg c2,hok];simp only[aa]
    rw[aL (by simp;omega)]
    exact ⟨_,rfl,r1,rfl,hR1⟩
  ·rw[if_neg (fun h=>c1 h.1)] at hok
   rw[if_neg (by simpa using c1),hok];simp only[aa]
   rw[aL (by simp;omega)]
   exact ⟨_,rfl,r1,rfl,hR1⟩) (by
  rintro s ⟨r1,rfl,hR1⟩
  unfold gq
  simp) (s:=(l,rs,[],0)) ⟨rs,rfl,hR⟩ (by unfold aX;omega)
 rw[List.take_of_length_le (by omega)] at e hR'
 exact ⟨rs',e,hR'⟩
theorem XE (V:VA a n) (hn:n<=1000000) (hc:c.length=n) (hlv:lv.length=n) (hs:nth lv a.1=true) (H:NumOk nx (nth c a.1) G B) (hB:B<=1000000)
  (hnx: ∀r,good n lv r->nx (nth c r)=xp a c lv r) (hacc: ∀r,good n lv r->acc (nth c r)=nth a.2.1 r) :
  ∃N,bfE nx (nth c a.1) N/\ix a c lv=some (0,(bfS nx (nth c a.1) N).map acc,bfR nx (nth c a.1) N):=by
 obtain ⟨N,hNB,hN⟩:=Tf (nx:=nx) (first:=nth c a.1) (H.le)
 refine ⟨N,hN,?_⟩
 have hst:=V.start
 have hlen:=V.len
 unfold ix
 rw[aF hst.1 (by omega)];simp only[aa]
 rw[if_pos hs,aF hst.1 (by omega)];simp only[aa]
 obtain ⟨s',e,rs,rfl,hR⟩:=nP (f:=jf a c lv) (fun i s=> ∃rs,s=(bfS nx (nth c a.1) i,rs,(i:Int),0,((bfS nx (nth c a.1) i).take i).map acc,bfR nx (nth c a.1) i)/\RepsOf n lv c rs (bfS nx (nth c a.1) i)) N (by
  rintro i s hi ⟨rs,rfl,hR⟩
  have hlt:=hN.2 i hi
  have hG:=H.at hlt
  have hle:=H.le i
  have hle':=H.le (i+1)
  obtain ⟨rs',e,hR'⟩:=Pm (acs:=((bfS nx (nth c a.1) i).take i).map acc) (rws:=bfR nx (nth c a.1) i) V hn hc hlv hlt hR (os:=nx (nth (bfS nx (nth c a.1) i) (i:Int))) (H.len _ hG) (fun r hr e=>by rw[<-hnx r hr,e]) (fun k=>by
    have:(nbS (bfS nx (nth c a.1) i) ((nx (nth (bfS nx (nth c a.1) i) (i:Int))).take k)).length<=B:=H.bound _ (sj (nQ i)) fun x hx=>by
     rcases xg.1 hx with hx | hx
     ·exact kJ H.g0 H.gn i x hx
     ·exact H.gn _ hG x (List.mem_of_mem_take hx)
    omega)
  unfold jf
  simp only
  rw[if_pos (by simp;omega),aw e]
  rw[<-kM hlt] at hR'
  have hl2:=(bR (nx:=nx) (first:=nth c a.1) i).length_le
  have hr1:=hR'.1
  obtain ⟨⟨g0,g1,g2⟩,gc⟩:=hR'.2 i (by omega)
  rw[jV (bR i) (by omega) (by omega)] at gc
  rw[aF (xs:=rs') (by omega) (by omega)];simp only[aa]
  rw[V.acc g0 g1,<-hacc _ ⟨g0,g1,g2⟩,gc];simp only[aa]
  have hr:(bfR nx (nth c a.1) i).length=i:=jS fun j hj=>hN.2 j (by omega)
  rw[aL (by simp;omega)];simp only[aa]
  rw[aL (by simp;omega)];simp only[aa,af (show i<9223372036854775807 by omega)]
  exact ⟨_,rfl,rs',by rw[<-kM hlt,ze hlt,wk hlt],hR'⟩) (by
  rintro s ⟨rs,rfl,hR⟩
  unfold jf
  simp only
  rw[if_neg (by have:=hN.1;simp;omega)]) (s:=([nth c a.1],[a.1],0,0,[],[])) ⟨[a.1],rfl,rfl,fun j hj=>by
   obtain rfl:j=0:=by simpa [bfS] using hj
   exact ⟨⟨hst.1,hst.2,hs⟩,rfl⟩⟩ (tV (by omega))
 rw[aw e]
 simp only
 rw[List.take_of_length_le (by have:=hN.1;omega)]
theorem IG (V:VA a n) (hlv:lv.length=n) (hs:nth lv a.1=false):ix a c lv=some nothing:=by
 have hst:=V.start
 unfold ix
 rw[aF hst.1 (by omega)];simp only[aa]
 rw[hs,Ph];rfl
end
end D
namespace D
open Go.RowKit
abbrev G0:=(List Int)×Int×Int×(List Int)×Bool
abbrev R7 (x:Int) (j:Nat):Bool:=(zi (tm x (j:Int)) 1)==1
def R8 (F:List Int) (set m0:Int):Nat->Int
 | 0=>m0
 | i+1=>if R7 set (i+1) then orI (R8 F set m0 i) (nth F (i:Int)) else R8 F set m0 i
def pick (L:List Int) (m letter:Int):Nat->Int
 | 0=>0
 | i+1=>if nth L (i:Int)=letter/\R7 m i=true then orI (pick L m letter i) (IS 1 ((i+1:Nat):Int)) else pick L m letter i
def aft (p:G0) (set letter:Int):Int:=pick p.1 (R8 p.2.2.2.1 set (if (zi set 1)==1 then p.2.1 else 0) p.2.2.2.1.length) letter p.1.length
def wm (p:G0) (set:Int):Bool:=if (zi set 1)==1 then (if p.2.2.2.2 then true else (zi (tm set 1) p.2.2.1) !=0) else (zi (tm set 1) p.2.2.1) !=0
theorem sp (i:Nat):chk (0<=(i:Int))=some ():=by unfold chk;rw[if_pos (by omega)]
theorem VT {p:G0} {set letter:Int} (hl:p.2.2.2.1.length=p.1.length) (hb:p.1.length<=1000000):oi p set letter=some (aft p set letter):=by
 have h0: ∀m0,ax (gS p set) aX (m0,0)=some (.brk (R8 p.2.2.2.1 set m0 p.1.length,(p.1.length:Int))):=fun m0 =>
  bq (f:=gS p set) (fun i=>(R8 p.2.2.2.1 set m0 i,(i:Int))) p.1.length (fun i hi=>by
   unfold gS
   simp only
   rw[if_pos (by simp;omega),af (by omega),sp];simp only[aa]
   rw[R8]
   by_cases c:R7 set (i+1)=true
   ·rw[if_pos c,if_pos c,aF (by omega) (by omega)];rfl
   ·rw[if_neg c,if_neg c];rfl) (by unfold gS;simp) (tV (by omega))
 have h1: ∀s7:Int×Int,ax (gT p letter s7) aX (0,0)=some (.brk (pick p.1 s7.1 letter p.1.length,(p.1.length:Int))):=fun s7 =>
  bq (f:=gT p letter s7) (fun i=>(pick p.1 s7.1 letter i,(i:Int))) p.1.length (fun i hi=>by
   unfold gT
   simp only
   rw[if_pos (by simp;omega),af (by omega),sp,sp];simp only[aa]
   rw[pick]
   by_cases c:R7 s7.1 i=true
   ·rw[if_pos c,aF (by omega) (by omega)];simp only[aa]
    by_cases d:nth p.1 (i:Int)=letter
    ·rw[if_pos (by simpa using d),if_pos ⟨d,c⟩];rfl
    ·rw[if_neg (by simpa using d),if_neg (fun h=>d h.1)];rfl
   ·rw[if_neg c,if_neg (fun h=>c h.2)];rfl) (by unfold gT;simp) (tV (by omega))
 unfold oi aft
 rw[hl]
 by_cases c:((zi set 1)==1)=true
 ·rw[if_pos c,if_pos c];simp only[aa]
  rw[aw (h0 _),aw (h1 _)]
 ·rw[if_neg c,if_neg c];simp only[aa]
  rw[aw (h0 _),aw (h1 _)]
theorem VU {p:G0} {set letter:Int} (hl:p.2.2.2.1.length=p.1.length) (hb:p.1.length<=1000000):fV p set letter=some (aft p set letter):=by
 have h0: ∀m0,ax (cX p set) aX (m0,0)=some (.brk (R8 p.2.2.2.1 set m0 p.2.2.2.1.length,(p.2.2.2.1.length:Int))):=fun m0 =>
  bq (f:=cX p set) (fun i=>(R8 p.2.2.2.1 set m0 i,(i:Int))) p.2.2.2.1.length (fun i hi=>by
   unfold cX
   simp only
   rw[if_pos (by simp;omega),aF (by omega) (by omega)];simp only[aa]
   rw[af (by omega),sp];simp only[aa]
   rw[R8]
   by_cases c:R7 set (i+1)=true
   ·rw[if_pos c,if_pos c];rfl
   ·rw[if_neg c,if_neg c];rfl) (by unfold cX;simp) (tV (by omega))
 have h1: ∀s7:Int×Int,ax (cY p letter s7) aX (0,0)=some (.brk (pick p.1 s7.1 letter p.1.length,(p.1.length:Int))):=fun s7 =>
  bq (f:=cY p letter s7) (fun i=>(pick p.1 s7.1 letter i,(i:Int))) p.1.length (fun i hi=>by
   unfold cY
   simp only
   rw[if_pos (by simp;omega),aF (by omega) (by omega)];simp only[aa]
   rw[af (by omega),sp,sp];simp only[aa]
   rw[pick]
   by_cases d:nth p.1 (i:Int)=letter
   ·rw[if_pos (by simpa using d)]
    by_cases c:R7 s7.1 i=true
    ·rw[if_pos c,if_pos ⟨d,c⟩];rfl
    ·rw[if_neg c,if_neg (fun h=>c h.2)];rfl
   ·rw[if_neg (by simpa using d),if_neg (fun h=>d h.1)];rfl) (by unfold cY;simp) (tV (by omega))
 unfold fV aft
 by_cases c:((zi set 1)==1)=true
 ·rw[if_pos c,if_pos c];simp only[aa]
  rw[aw (h0 _),aw (h1 _)]
 ·rw[if_neg c,if_neg c];simp only[aa]
  rw[aw (h0 _),aw (h1 _)]
theorem XF (p:G0) (x:Int):lA p x=some (wm p x):=by
 unfold lA wm
 split <;> (try split) <;> rfl
theorem XG (p:G0) (x:Int):dk p x=some (wm p x):=by
 unfold dk wm
 split <;> (try split) <;> rfl
theorem Lz (x:Int): -9223372036854775808<=IntKind.i64.wrap x/\IntKind.i64.wrap x<=9223372036854775807:=by
 simp only[IntKind.wrap,IntKind.bits,IntKind.signed,Bool.true_and]
 split <;> rename_i h <;> simp at h <;> omega
theorem VV (x:Int):iOk (IntKind.i64.wrap x)=true:=by
 have h1:IntKind.i64.min= -9223372036854775808:=by decide
 have h2:IntKind.i64.max=9223372036854775807:=by decide
 have h3:=Lz x
 simp only[iOk,Lit.wf,h1,h2,aj,decide_eq_true_eq]
 omega
theorem XH (m n:Int):iOk (orI m n)=true:=VV _
theorem Pn (L:List Int) (m letter:Int): ∀i,iOk (pick L m letter i)=true
 | 0=>by unfold pick;decide
 | i+1=>by
  rw[pick]
  split
  ·exact XH _ _
  ·exact Pn L m letter i
def nxS (p:G0) (x:Int):List (Option Int):=(List.range 9).map fun k:Nat=>if aft p x (k:Int)=0 then none else some (aft p x (k:Int))
theorem TC {p:G0} {x:Int} {k:Nat} (hk:k<9):nth (nxS p x) (k:Int)=if aft p x k=0 then none else some (aft p x k):=by
 have:k<(nxS p x).length:=by simp[nxS];omega
 rw[bZ this];simp[nxS]
theorem Ey (p:G0) (x:Int):(nxS p x).length=9:=by simp[nxS]
theorem XI {p:G0} {x y:Int} (h:some y∈nxS p x):iOk y=true:=by
 obtain ⟨k,hk,e⟩:=List.mem_map.1 h
 split at e
 ·cases e
 ·obtain rfl:=ae e
  exact Pn _ _ _ _
theorem Po {κ:Type} [DecidableEq κ] : ∀(l:List κ) (os:List (Option κ)),(nbS l os).length<=l.length+os.length
 | l,[] =>by simp[nbS]
 | l,o::os=>by
  have h:=Po (nbL l o) os
  have h2:(nbL l o).length<=l.length+1:=by
   cases o with
   | none=>simp[nbL]
   | some x=>unfold nbL;simp only;split <;> simp
  show (nbS (nbL l o) os).length<=_
  simp only[ak];omega
section
variable {κ:Type} [DecidableEq κ] (nx:κ->List (Option κ)) (first:κ) (acc:κ->Bool) (most:Nat)
def goM:Nat->Nat->AutT×Bool
 | 0,i=>((0,[],[]),false)
 | f+1,i=>if i<(bfS nx first i).length then (if (bfS nx first (i+1)).length>most then ((0,[],[]),false) else goM f (i+1)) else ((0,((bfS nx first i).take i).map acc,bfR nx first i),true)
end
section
variable {κ:Type} [DecidableEq κ] {nx:κ->List (Option κ)} {first:κ} {acc:κ->Bool} {most:Nat}
theorem Ez {i:Nat} (h: ∀j,j<i->j<(bfS nx first j).length):i<=(bfS nx first i).length:=by
 cases i with
 | zero=>omega
 | succ i =>
  have h1:=h i (by omega)
  have h2:=(bR (nx:=nx) (first:=first) i).length_le
  omega
theorem J8 {S:Type} {f:S->Option (Out (AutT×Bool) S)} (hm:most<=1000000) (h1:1<=most) (st:Nat->S->Prop)
  (hs: ∀i s,st i s->(∀j,j<i->j<(bfS nx first j).length)->(bfS nx first i).length<=most->i<(bfS nx first i).length->((bfS nx first (i+1)).length>most->f s=some (.ret ((0,[],[]),false)))/\((bfS nx first (i+1)).length<=most-> ∃s',f s=some (.nxt s')/\st (i+1) s'))
  (he: ∀i s,st i s-> ¬i<(bfS nx first i).length->f s=some (.brk s)) {s:S} (h0:st 0 s) :
  (ax f aX s=some (.ret ((0,[],[]),false))/\goM nx first acc most (most+2) 0=((0,[],[]),false)) \/
  ∃N s',ax f aX s=some (.brk s')/\st N s'/\bfE nx first N/\N<=most/\goM nx first acc most (most+2) 0=((0,(bfS nx first N).map acc,bfR nx first N),true):=by
 obtain ⟨o,e,hq⟩:=cT (f:=f) (fun i s=>st i s/\(∀j,j<i->j<(bfS nx first j).length)/\(bfS nx first i).length<=most/\goM nx first acc most (most+2) 0=goM nx first acc most (most+2 - i) i)
  (fun o=>(o= .ret ((0,[],[]),false)/\goM nx first acc most (most+2) 0=((0,[],[]),false))\/ ∃N s',o= .brk s'/\st N s'/\bfE nx first N/\N<=most/\goM nx first acc most (most+2) 0=((0,(bfS nx first N).map acc,bfR nx first N),true)) most (s:=s) (by
  rintro i s hi ⟨k1,k2,k3,k4⟩
  have hle:=Ez k2
  rw[show most+2 - i=(most+1 - i)+1 from by omega] at k4
  have k5:goM nx first acc most (most+1 - i+1) i=if i<(bfS nx first i).length then (if (bfS nx first (i+1)).length>most then ((0,[],[]),false) else goM nx first acc most (most+1 - i) (i+1)) else ((0,((bfS nx first i).take i).map acc,bfR nx first i),true):=rfl
  rw[k5] at k4
  by_cases c:i<(bfS nx first i).length
  ·rw[if_pos c] at k4
   obtain ⟨q1,q2⟩:=hs i s k1 k2 k3 c
   by_cases d:(bfS nx first (i+1)).length>most
   ·rw[if_pos d] at k4
    exact .inr ⟨_,q1 d,(fun s' e=>by cases e),.inl ⟨rfl,k4⟩⟩
   ·rw[if_neg d] at k4
    obtain ⟨s',e,hs'⟩:=q2 (by omega)
    exact .inl ⟨by omega,s',e,hs',fun j hj=>(by
     by_cases ej:j=i
     ·subst ej;exact c
     ·exact k2 j (by omega)),by omega,by rw[k4];congr 1;omega⟩
  ·rw[if_neg c] at k4
   refine .inr ⟨_,he i s k1 c,(fun s' e=>by cases e),.inr ⟨i,s,rfl,k1,⟨by omega,k2⟩,hi,?_⟩⟩
   rw[k4,List.take_of_length_le (by omega)]) ⟨h0,fun j hj=>by omega,by simp[bfS];omega,rfl⟩ (tV (by omega))
 rcases hq with ⟨rfl,h⟩ | ⟨N,s',rfl,h⟩
 ·exact .inl ⟨e,h⟩
 ·exact .inr ⟨N,s',e,h⟩
end
section
variable {p:G0} {most:Nat} (hl:p.2.2.2.1.length=p.1.length) (hb:p.1.length<=1000000) (hm:most<=900000) (h1:1<=most)
include hl hb hm h1
theorem YV:hH p most=some (goM (nxS p) 1 (wm p) most (most+2) 0):=by
 have hp3: ∀(l:List Int) (i k:Nat),k<9-> ∃j,(fun a0 a1=>da a0 a1 (p.1,p.2.1,p.2.2.1,p.2.2.2.1,p.2.2.2.2)) (nth l (i:Int)) (k:Int)=some (match nth (nxS p (nth l (i:Int))) (k:Int) with | some y=>(y,true) | none=>(j,false)):=by
  intro l i k hk
  refine ⟨0,?_⟩
  show da _ _ p=_
  unfold da
  simp only[dU]
  rw[VU hl hb,TC hk];simp only[aa]
  by_cases c:aft p (nth l (i:Int)) k=0
  ·rw[if_pos c];simp[c]
  ·rw[if_neg c];simp[c]
 unfold hH eI
 rw[show Mc ([] :List (Int×Int)) iOk iOk 1 0=some [(1,0)] from by unfold Mc;rw[if_pos ⟨by simp,by decide,by decide⟩]];simp only[aa]
 rcases J8 (nx:=nxS p) (first:=1) (acc:=wm p) (most:=most) (f:=bY most (fun a0=>dk (p.1,p.2.1,p.2.2.1,p.2.2.2.1,p.2.2.2.2) a0) (fun a0 a1=>da a0 a1 (p.1,p.2.1,p.2.2.1,p.2.2.2.1,p.2.2.2.2)))
  (by omega) h1 (fun i s=> ∃M,s=(bfS (nxS p) 1 i,M,(i:Int),0,((bfS (nxS p) 1 i).take i).map (wm p),bfR (nxS p) 1 i)/\MapOf M (bfS (nxS p) 1 i)) (by
   rintro i s ⟨M,rfl,hM⟩ hj hle hlt
   have hil:=Ez hj
   obtain ⟨M',e,hM'⟩:=GQ (p3:=fun a0 a1=>da a0 a1 (p.1,p.2.1,p.2.2.1,p.2.2.2.1,p.2.2.2.2)) (l:=bfS (nxS p) 1 i) (M:=M) (os:=nxS p (nth (bfS (nxS p) 1 i) (i:Int))) (acs:=((bfS (nxS p) 1 i).take i).map (wm p)) (rws:=bfR (nxS p) 1 i) hlt (Ey _ _) hM (fun y hy=>XI hy)
    (fun k=>by
     have:=Po (bfS (nxS p) 1 i) ((nxS p (nth (bfS (nxS p) 1 i) (i:Int))).take k)
     have h9:=Ey p (nth (bfS (nxS p) 1 i) (i:Int))
     rw[aA] at this
     omega) (fun k hk=>hp3 _ i k hk)
   rw[<-kM hlt] at hM'
   have hl2:=(bR (nx:=nxS p) (first:=1) i).length_le
   constructor
   ·intro hgt
    unfold bY
    simp only
    rw[if_pos (by simp;omega),aw e,<-kM hlt]
    simp only
    rw[if_pos (by simp;omega)]
   ·intro hle2
    unfold bY
    simp only
    rw[if_pos (by simp;omega),aw e,<-kM hlt]
    simp only
    rw[if_neg (by simp;omega),aF (by omega) (by omega)];simp only[aa]
    rw[jV (bR i) (by omega) (by omega)]
    simp only[dU]
    rw[XG];simp only[aa]
    have hr:(bfR (nxS p) 1 i).length=i:=jS hj
    rw[aL (by simp;omega)];simp only[aa]
    rw[aL (by simp;omega)];simp only[aa,af (show i<9223372036854775807 by omega)]
    exact ⟨_,rfl,M',by rw[ze hlt,wk hlt],hM'⟩) (by
   rintro i s ⟨M,rfl,hM⟩ hn
   unfold bY
   simp only
   rw[if_neg (by simp;omega)]) (s:=([1],[(1,0)],0,0,[],[])) ⟨_,rfl,MapOf.one 1⟩ with ⟨e,hg⟩ | ⟨N,s',e,⟨M,rfl,hM⟩,hN,hNm,hg⟩
 ·rw[cd e,hg];rfl
 ·rw[aw e,hg];simp only[aa]
  rw[List.take_of_length_le (by have:=hN.1;omega)]
theorem R9 {l:List Int} {acs:List Bool} {rws:List (List Int)} {i:Nat} (hi:i<l.length) (hle:l.length<=most) :
  ax (fv p (l,(i:Int),0,acs,rws)) aX (l,[],0)=some (.brk (nbS l (nxS p (nth l (i:Int))),nbR l (nxS p (nth l (i:Int))),9)):=by
 have h9:=Ey p (nth l (i:Int))
 have:=bq (f:=fv p (l,(i:Int),0,acs,rws)) (fun k=>(nbS l ((nxS p (nth l (i:Int))).take k),nbR l ((nxS p (nth l (i:Int))).take k),(k:Int))) 9 (fun k hk=>by
  have hpre:=lh l ((nxS p (nth l (i:Int))).take k)
  have hlen:=hpre.length_le
  have hB:=Po l ((nxS p (nth l (i:Int))).take k)
  rw[aA] at hB
  have hrl:(nbR l ((nxS p (nth l (i:Int))).take k)).length<=9:=by rw[eJ,aA];omega
  unfold fv
  simp only[dU]
  rw[if_pos (by simp;omega),aF (by omega) (by omega)];simp only[aa]
  rw[jV hpre (by omega) (by omega),VT hl hb];simp only[aa]
  rw[take_one (by omega),vZ,sV,TC hk]
  simp only[af (show k<9223372036854775807 by omega)]
  by_cases c:aft p (nth l (i:Int)) k=0
  ·rw[if_pos c,if_neg (by simp[c])];simp only[aa]
   rw[aL (by simp;omega)];rfl
  ·rw[if_neg c,if_pos (by simpa using c),TA (by omega)];simp only[aa]
   by_cases d:aft p (nth l (i:Int)) k∈nbS l ((nxS p (nth l (i:Int))).take k)
   ·rw[if_pos d,if_neg (by simp),my d];simp only[aa]
    rw[aL (by simp;omega)];rfl
   ·rw[if_neg d,if_pos (by decide),aL (by simp;omega),lj d];simp only[aa]
    rw[aL (by simp;omega)];simp only[nbI,pE d,aa]) (by
  unfold fv
  simp) (by unfold aX;omega)
 have e9:(nxS p (nth l (i:Int))).take 9=nxS p (nth l (i:Int)):=List.take_of_length_le (by omega)
 rw[e9] at this
 exact this
theorem YW:iU p most=some (goM (nxS p) 1 (wm p) most (most+2) 0):=by
 unfold iU
 rcases J8 (nx:=nxS p) (first:=1) (acc:=wm p) (most:=most) (f:=fw p most)
  (by omega) h1 (fun i s=>s=(bfS (nxS p) 1 i,(i:Int),0,((bfS (nxS p) 1 i).take i).map (wm p),bfR (nxS p) 1 i)) (by
   rintro i s rfl hj hle hlt
   have hil:=Ez hj
   have e:=R9 hl hb hm h1 (acs:=((bfS (nxS p) 1 i).take i).map (wm p)) (rws:=bfR (nxS p) 1 i) hlt hle
   have hl2:=(bR (nx:=nxS p) (first:=1) i).length_le
   constructor
   ·intro hgt
    unfold fw
    simp only
    rw[if_pos (by simp;omega),aw e,<-kM hlt]
    simp only
    rw[if_pos (by simp;omega)]
   ·intro hle2
    unfold fw
    simp only
    rw[if_pos (by simp;omega),aw e,<-kM hlt]
    simp only
    rw[if_neg (by simp;omega),aF (by omega) (by omega)];simp only[aa]
    rw[jV (bR i) (by omega) (by omega)]
    simp only[dU]
    rw[XF];simp only[aa]
    have hr:(bfR (nxS p) 1 i).length=i:=jS hj
    rw[aL (by simp;omega)];simp only[aa]
    rw[aL (by simp;omega)];simp only[aa,af (show i<9223372036854775807 by omega)]
    exact ⟨_,rfl,by rw[ze hlt,wk hlt]⟩) (by
   rintro i s rfl hn
   unfold fw
   simp only
   rw[if_neg (by simp;omega)]) (s:=([1],0,0,[],[])) rfl with ⟨e,hg⟩ | ⟨N,s',e,rfl,hN,hNm,hg⟩
 ·rw[cd e,hg]
 ·rw[aw e,hg];simp only
  rw[List.take_of_length_le (by have:=hN.1;omega)]
end
end D
namespace D
open Go.RowKit
theorem Sa (m n:Int):orI m n=orI n m:=by unfold orI;rw[BitVec.or_comm]
def lk (F:List Int) (from_ to_:Int):Nat->List Int
 | 0=>F
 | i+1=>if R7 from_ i then (lk F from_ to_ i).set i (orI (nth (lk F from_ to_ i) (i:Int)) to_) else lk F from_ to_ i
theorem Bd (F:List Int) (f t:Int): ∀i,(lk F f t i).length=F.length
 | 0=>rfl
 | i+1=>by
  rw[lk]
  split
  ·rw[List.length_set,Bd]
  ·exact Bd F f t i
theorem TE {p:G0} {f t:Int} (hl:p.2.2.2.1.length<=1000000):nl p f t=some (p.1,p.2.1,p.2.2.1,lk p.2.2.2.1 f t p.2.2.2.1.length,p.2.2.2.2):=by
 have hL:ax (iT f t) aX (0,p.2.2.2.1)=some (.brk ((p.2.2.2.1.length:Int),lk p.2.2.2.1 f t p.2.2.2.1.length)):=bq (f:=iT f t) (fun i=>((i:Int),lk p.2.2.2.1 f t i)) p.2.2.2.1.length (fun i hi=>by
  have hk:=Bd p.2.2.2.1 f t i
  unfold iT
  simp only
  rw[if_pos (by simp;omega),sp];simp only[aa]
  rw[lk,af (by omega)]
  by_cases c:R7 f i=true
  ·rw[if_pos c,if_pos c,aF (by omega) (by omega)];simp only[aa,Int.toNat_natCast]
  ·rw[if_neg c,if_neg c];rfl) (by unfold iT;simp[Bd]) (tV (by omega))
 unfold nl
 rw[aw hL]
theorem J9 {p:G0} {f t:Int} (hl:p.2.2.2.1.length<=1000000):dz p f t=some (p.1,p.2.1,p.2.2.1,lk p.2.2.2.1 f t p.2.2.2.1.length,p.2.2.2.2):=by
 have hL:ax (cQ p f t) aX (0,p.2.2.2.1)=some (.brk ((p.2.2.2.1.length:Int),lk p.2.2.2.1 f t p.2.2.2.1.length)):=bq (f:=cQ p f t) (fun i=>((i:Int),lk p.2.2.2.1 f t i)) p.2.2.2.1.length (fun i hi=>by
  have hk:=Bd p.2.2.2.1 f t i
  unfold cQ
  simp only
  rw[if_pos (by simp;omega),sp];simp only[aa]
  rw[lk,af (by omega)]
  by_cases c:R7 f i=true
  ·rw[if_pos c,if_pos c,aF (by omega) (by omega)];simp only[aa,Int.toNat_natCast]
  ·rw[if_neg c,if_neg c];rfl) (by unfold cQ;simp) (tV (by omega))
 unfold dz
 rw[aw hL]
def BOk (x:Tr Tok):Prop:= ∀(n m:Nat) (p:G0),(flat x).length<=n->(flat x).length<=m->p.2.2.2.1.length=p.1.length->p.1.length+(flat x).length<=100000->
 ∃(nu:Bool) (fi la:Int) (q:G0),df n p (flat x)=some ((nu,fi,la),q)/\bE m p x=some ((fi,la,nu),q)/\q.2.2.2.1.length=q.1.length/\q.1.length<=p.1.length+(flat x).length
theorem Sb {x:Tr Tok} (h:WT x):BOk x:=by
 refine WT.ind (p:=BOk) ?_ ?_ ?_ h
 ·intro t e n m p hn hm hF hl
  rw[B5] at hn hm hl⊢
  simp only[ak,aG] at hl
  match n,m,hn,hm with
  | n+1,m+1,_,_ =>
   rw[df,bE];simp only[pG,aa]
   have:=(mT (A:=[]) (t:=t) (by simp)).1
   rw[List.nil_append] at this
   rw[this];simp only[aa,dU]
   rcases nS (show 0<=ar t by omega) with ⟨k,_⟩ | ⟨k,_⟩ | ⟨_,k⟩
   ·omega
   ·omega
   rcases k with k | k | k
   ·exact ⟨false,0,0,p,by simp[k],by simp[k],hF,by simp⟩
   ·exact ⟨true,0,0,p,by simp[k],by simp[k],hF,by simp⟩
   ·refine ⟨false,IS 1 (p.1.length:Int),IS 1 (p.1.length:Int),(p.1++ [t.2.1],p.2.1,p.2.2.1,p.2.2.2.1++ [0],p.2.2.2.2),?_,?_,by simp[hF],by simp⟩
    ·rw[if_neg (by simp[k]),if_pos (by simp[k]),aL (by simp;omega)];simp only[aa]
     rw[aL (by simp;omega)];rfl
    ·rw[if_neg (by simp[k]),if_pos (by simp[k]),aL (by simp;omega)];simp only[aa]
     rw[aL (by simp;omega)];rfl
 ·intro t a e wa ih n m p hn hm hF hl
  rw[Es] at hn hm hl⊢
  simp only[al,ak,aG] at hn hm hl
  match n,m,hn,hm with
  | n+1,m+1,hn,hm =>
   rw[df,bE];simp only[pG,aa,dU]
   obtain ⟨l1,l2⟩:=mT (A:=flat a) (t:=t) (by omega)
   rw[l1];simp only[aa]
   obtain ⟨nu,fi,la,q,hs,hi,hq1,hq2⟩:=ih n m p (by omega) (by omega) hF (by omega)
   rcases R3 e with ⟨k1,k2⟩ | ⟨k1,k2,k3⟩
   ·have g2:(t.1==2)=false:=by simp[k2]
    have g3:(t.1==3)=false:=by simp[k2]
    have g4:(t.1==4)=false:=by simp[k2]
    have g5:(t.1==5)=false:=by simp[k2]
    simp only[g2,g3,g4,g5,k1,Bool.false_eq_true,if_false,if_true]
    rw[l2,Int.toNat_natCast,List.take_left,chk_of (by simp only[al,ak,aG];omega)];simp only[aa]
    rw[hs,show aQ [a] 0=some a from rfl];simp only[aa]
    rw[hi];simp only[aa,dU]
    rw[TE (by omega),J9 (by omega)];simp only[aa]
    refine ⟨true,fi,la,_,rfl,rfl,?_,?_⟩
    ·simp only[Bd];exact hq1
    ·simp only[al,ak,aG];omega
   ·have g2:(t.1==2)=false:=by simp[k3]
    have g3:(t.1==3)=false:=by simp[k3]
    have g4:(t.1==4)=false:=by simp[k3]
    have g5:(t.1==5)=false:=by simp[k3]
    simp only[g2,g3,g4,g5,k1,Bool.false_eq_true,if_false]
    exact ⟨false,0,0,p,rfl,rfl,hF,by omega⟩
 ·intro t a b e wa wb iha ihb n m p hn hm hF hl
  rw[uO] at hn hm hl⊢
  have hl2:((flat a++flat b)++ [t]).length<=1000000:=by omega
  obtain ⟨p1,p2,p3,p4⟩:=Bc (a:=a) (t:=t) wb hl2
  simp only[al,ak,aG] at hn hm hl
  match n,m,hn,hm with
  | n+1,m+1,hn,hm =>
   have hpa:=wa.pos
   have hpb:=wb.pos
   rw[df,bE];simp only[pG,aa,dU]
   obtain ⟨l1,l2⟩:=mT (A:=flat a++flat b) (t:=t) (by rw[al];omega)
   rw[l1];simp only[aa]
   obtain ⟨nu,fi,la,q,hs,hi,hq1,hq2⟩:=iha n m p (by omega) (by omega) hF (by omega)
   obtain ⟨nu2,fi2,la2,q2,hs2,hi2,hq3,hq4⟩:=ihb n m q (by omega) (by omega) hq1 (by omega)
   have c1: ∀r:Int,0<=r->r<=((flat a++flat b++ [t]).length:Int)->chk (0<=r/\r<=((flat a++flat b++ [t]).length:Int))=some ():=fun r h1 h2=>chk_of ⟨h1,h2⟩
   have g0:aQ [a,b] 0=some a:=rfl
   have g1:aQ [a,b] 1=some b:=rfl
   rcases nS (show 0<=ar t by omega) with ⟨_,k⟩ | ⟨k,_⟩ | ⟨k,_⟩
   ·rcases k with k | k
    ·have g2:(t.1==2)=false:=by simp[k]
     have g3:(t.1==3)=false:=by simp[k]
     have g4:(t.1==4)=true:=by simp[k]
     have g5:(t.1==5)=false:=by simp[k]
     simp only[g2,g3,g4,g5,Bool.false_eq_true,if_false,if_true]
     rw[l2,p1,p2,chk_of (by simp only[al,ak,aG];omega)];simp only[aa]
     rw[chk_of (by simp only[al,ak,aG];omega),p3,p4,hs,g0,g1];simp only[aa]
     rw[hi,chk_of (by simp only[al,ak,aG];omega)];simp only[aa,dU]
     rw[hs2,hi2];simp only[aa,dU]
     rw[TE (by omega),J9 (by omega)];simp only[aa]
     refine ⟨nu&&nu2,if nu then orI fi fi2 else fi,if nu2 then orI la la2 else la2,(q2.1,q2.2.1,q2.2.2.1,lk q2.2.2.2.1 la fi2 q2.2.2.2.1.length,q2.2.2.2.2),?_,?_,?_,?_⟩
     ·cases nu <;> cases nu2 <;> rfl
     ·rw[Sa la la2]
      cases nu <;> cases nu2 <;> rfl
     ·simp only[Bd];exact hq3
     ·simp only[al,ak,aG];omega
    ·have g2:(t.1==2)=false:=by simp[k]
     have g3:(t.1==3)=false:=by simp[k]
     have g4:(t.1==4)=false:=by simp[k]
     have g5:(t.1==5)=true:=by simp[k]
     simp only[g2,g3,g4,g5,Bool.false_eq_true,if_false,if_true]
     rw[l2,p1,p2,chk_of (by simp only[al,ak,aG];omega)];simp only[aa]
     rw[chk_of (by simp only[al,ak,aG];omega),p3,p4,hs,g0,g1];simp only[aa]
     rw[hi,chk_of (by simp only[al,ak,aG];omega)];simp only[aa,dU]
     rw[hs2,hi2];simp only[aa,dU]
     refine ⟨nu || nu2,orI fi fi2,orI la la2,q2,?_,?_,hq3,?_⟩
     ·cases nu <;> simp
     ·cases nu <;> simp
     ·simp only[al,ak,aG];omega
   ·omega
   ·omega
def II (e:List Tok):Nat->Nat
 | 0=>0
 | i+1=>if (nth e (i:Int)).1=3 then II e i+1 else II e i
theorem IJ (e:List Tok): ∀i,II e i<=i
 | 0=>aC _
 | i+1=>by
  have:=IJ e i
  rw[II];split <;> omega
theorem YX {r:List Tok×Bool} (hl:r.1.length<=1000000):ax (dh r) aX (0,0)=some (.brk ((II r.1 r.1.length:Int),(r.1.length:Int))):=
 bq (f:=dh r) (fun i=>((II r.1 i:Int),(i:Int))) r.1.length (fun i hi=>by
  have:=IJ r.1 i
  unfold dh
  simp only
  rw[if_pos (by simp;omega),aF (by omega) (by omega)];simp only[aa]
  rw[II,af (show i<9223372036854775807 by omega),af (show II r.1 i<9223372036854775807 by omega)]
  by_cases c:(nth r.1 (i:Int)).1=3
  ·rw[if_pos (by simpa using c),if_pos c];rfl
  ·rw[if_neg (by simpa using c),if_neg c];rfl) (by unfold dh;simp) (tV (by omega))
theorem YY {r:List Tok×Bool} (hl:r.1.length<=1000000):ax (dj r) aX (0,0)=some (.brk ((II r.1 r.1.length:Int),(r.1.length:Int))):=
 bq (f:=dj r) (fun i=>((II r.1 i:Int),(i:Int))) r.1.length (fun i hi=>by
  have:=IJ r.1 i
  unfold dj
  simp only
  rw[if_pos (by simp;omega),aF (by omega) (by omega)];simp only[aa]
  rw[II,af (show i<9223372036854775807 by omega),af (show II r.1 i<9223372036854775807 by omega)]
  by_cases c:(nth r.1 (i:Int)).1=3
  ·rw[if_pos (by simpa using c),if_pos c];rfl
  ·rw[if_neg (by simpa using c),if_neg c];rfl) (by unfold dj;simp) (tV (by omega))
theorem uQ {e:List Tok} (he:e.length<=1048576): ∃r:G0×Bool,gG e=some r/\gH e=some r/\r.1.2.2.2.1.length=r.1.1.length/\r.1.1.length<=100000:=by
 have hF:=wj
 obtain ⟨e1,e2⟩:=IE he
 unfold gG gH
 rw[e1,e2];simp only[aa]
 by_cases c:(Ly e).2=true
 ·obtain ⟨y,wy,ey,ly⟩:=VQ c
  rw[if_pos c,if_pos c,aw (YX (by rw[ey];omega)),aw (YY (by rw[ey];omega))]
  simp only
  by_cases d:(II (Ly e).1 (Ly e).1.length:Int)>20
  ·have d':decide ((II (Ly e).1 (Ly e).1.length:Int)>20)=true:=decide_eq_true d
   simp only[d',if_true]
   exact ⟨_,rfl,rfl,rfl,by simp⟩
  ·have d':decide ((II (Ly e).1 (Ly e).1.length:Int)>20)=false:=decide_eq_false d
   simp only[d',Bool.false_eq_true,if_false]
   rw[ey,Eu (by omega),xm wy];simp only[aa]
   obtain ⟨nu,fi,la,q,hs,hi,hq1,hq2⟩:=Sb wy gl gl ([],0,0,[],false) (by omega) (by omega) rfl (by simp;omega)
   rw[hs,hi];simp only[aa]
   exact ⟨_,rfl,rfl,hq1,by simp at hq2;show q.1.length<=_;omega⟩
 ·rw[if_neg c,if_neg c]
  exact ⟨_,rfl,rfl,rfl,by simp⟩
end D
namespace D
open Go.RowKit
theorem LA (n:Nat) (l:List Int) (hd:l.Nodup) (h: ∀x∈l,0<=x/\x<n):l.length<=n:=by
 have:=hd.length_le_of_subset (l₂:=(List.range n).map Int.ofNat) (fun x hx=>by
  obtain ⟨h0,h1⟩:=h x hx
  exact List.mem_map.2 ⟨x.toNat,List.mem_range.2 (by omega),by show ((x.toNat:Nat):Int)=x;omega⟩)
 simpa using this
theorem XJ {n:Nat} {x:Int} (hn:n<=1000000) (h0:0<=x) (h1:x<n):iOk x=true:=by
 have:=Pj (n:=x.toNat) (by omega)
 rwa [show ((x.toNat:Nat):Int)=x from by omega] at this
theorem XK {κ:Type} [DecidableEq κ] {nx:κ->List (Option κ)} {first:κ} {G:κ->Prop} {B N:Nat} {acc:κ->Bool} (H:NumOk nx first G B) (hB:B<=1000000) (hN:bfE nx first N):Data.sm ((0,(bfS nx first N).map acc,bfR nx first N):AutT):=by
 have hl:=H.bound _ (nQ (nx:=nx) (first:=first) N) (kJ H.g0 H.gn N)
 refine ⟨trivial,⟨by rw[List.length_map];omega,fun _ _=>trivial⟩,?_,?_⟩
 ·rw[jS hN.2];have:=hN.1;omega
 ·have key: ∀i,i<=N-> ∀r∈bfR nx first i,r.length=9:=by
   intro i
   induction i with
   | zero=>intro _ r hr;cases hr
   | succ i ih =>
    intro hi r hr
    have hlt:=hN.2 i (by omega)
    rw[v7 hlt] at hr
    rcases aI hr with hr | hr
    ·exact ih (by omega) r hr
    ·obtain rfl:=ay hr
     rw[eJ,H.len _ (kJ H.g0 H.gn i _ (List.getElem_mem hlt))]
  intro r hr
  exact ⟨by rw[key N (aC _) r hr];decide,fun _ _=>trivial⟩
theorem LB:Data.sm nothing:=⟨trivial,⟨by decide,fun _ _=>trivial⟩,by decide,fun r hr=>by
 obtain rfl:=ay hr
 exact ⟨by decide,fun _ _=>trivial⟩⟩
end D
namespace D
open Go.RowKit
theorem LC {κ:Type} [DecidableEq κ] {l m:List κ} (h:l <+:m) {y:κ} (hy:y∈l):(m.idxOf y:Int)=l.idxOf y:=by
 obtain ⟨t,rfl⟩:=h
 rw[List.idxOf_append,if_pos hy]
theorem TG {κ:Type} [DecidableEq κ] : ∀(l:List κ) (os:List (Option κ)) (i:Nat),i<os.length->nth (nbR l os) (i:Int)=nbI (nbS l os) (nth os (i:Int))
 | l,o::os,0,_=>by
  show nbI l o=nbI (nbS (nbL l o) os) o
  cases o with
  | none=>rfl
  | some y =>
   have hm:y∈nbL l (some y):=Ox.2 (.inr rfl)
   simp only[nbI]
   rw[LC (lh _ os) hm]
   by_cases c:y∈l
   ·rw[my c]
   ·rw[lj c,List.idxOf_append,if_neg c,pE c];simp
 | l,o::os,i+1,h=>by
  have h':i<os.length:=by simpa using h
  have ih:=TG (nbL l o) os i h'
  have e1:nth (nbR l (o::os)) ((i+1:Nat):Int)=nth (nbR (nbL l o) os) (i:Int):=by
   rw[bZ (by rw[eJ];exact h),bZ (by rw[eJ];exact h')];rfl
  have e2:nth (o::os) ((i+1:Nat):Int)=nth os (i:Int):=by rw[bZ h,bZ h'];rfl
  rw[e1,e2];exact ih
theorem oR {κ:Type} [DecidableEq κ] {l:List κ} {y:κ} (h:y∈l): ∃(q:Nat) (hq:q<l.length),nbI l (some y)=(q:Int)/\l[q] =y:=
 ⟨l.idxOf y,List.idxOf_lt_length_of_mem h,rfl,by simp⟩
theorem EA {κ:Type} [DecidableEq κ] {l:List κ} {y:κ} (h:y∉l):nbI l (some y)=(l.length:Int):=by simp only[nbI,pE h]
def TH:List Int->Nat->Nat->Prop
 | [],c,m=>c=m
 | x::xs,c,m=>(x= -1/\TH xs c m)\/(0<=x/\x<c/\TH xs c m)\/(x=c/\TH xs (c+1) m)
theorem EB {κ:Type} [DecidableEq κ] : ∀(os:List (Option κ)) (l:List κ),TH (nbR l os) l.length (nbS l os).length
 | [],l=>rfl
 | none::os,l=>.inl ⟨rfl,EB os l⟩
 | some y::os,l=>by
  by_cases c:y∈l
  ·refine .inr (.inl ⟨Int.natCast_nonneg _,?_,?_⟩)
   ·have:=List.idxOf_lt_length_of_mem c
    simp only[nbI];omega
   ·show TH (nbR (nbL l (some y)) os) l.length (nbS (nbL l (some y)) os).length
    rw[my c];exact EB os l
  ·refine .inr (.inr ⟨by simp only[nbI,pE c],?_⟩)
   show TH (nbR (nbL l (some y)) os) (l.length+1) (nbS (nbL l (some y)) os).length
   have:=EB os (l++ [y])
   rw[lj c]
   simpa using this
def Yl:List Int->List (Option (List Int))->Prop
 | [],[] =>True
 | x::xs,o::os=>((x<0/\o=none)\/(0<=x/\ ∃t,o=some (x::t)))/\Yl xs os
 | _,_=>False
theorem Pp: ∀(xs:List Int) (os:List (Option (List Int))),xs.length=os.length->(∀i (h:i<xs.length) (h':i<os.length),(xs[i] < 0/\os[i] =none)\/(0<=xs[i] /\ ∃t,os[i] =some (xs[i] ::t)))->Yl xs os
 | [],[],_,_=>trivial
 | x::xs,o::os,hl,h=>⟨h 0 (by simp) (by simp),Pp xs os (by simpa using hl) fun i h1 h2=>h (i+1) (by simpa using h1) (by simpa using h2)⟩
theorem nT: ∀(xs:List Int) (os:List (Option (List Int))) (l:List (List Int)) (c m:Nat),Yl xs os->TH xs c m->(∀y∈l,∃h t,y=h::t/\h<c)->
  m+l.length<=(nbS l os).length+c/\(l.length=c->(∀(q:Nat) (hq:q<l.length),∃t,l[q] =(q:Int)::t)->(nbS l os).length=m->nbR l os=xs)
 | [],[],l,c,m,_,hn,_=>by
  have hn:c=m:=hn
  subst hn
  exact ⟨by simp[nbS];omega,fun _ _ _=>rfl⟩
 | x::xs,o::os,l,c,m,hr,hn,hh=>by
  obtain ⟨hr1,hr2⟩:=hr
  rcases hn with ⟨rfl,hn⟩ | ⟨hx0,hxc,hn⟩ | ⟨rfl,hn⟩
  ·have ho:o=none:=by
    rcases hr1 with ⟨-,h⟩ | ⟨h,-⟩
    ·exact h
    ·omega
   subst ho
   obtain ⟨i1,i2⟩:=nT xs os l c m hr2 hn hh
   exact ⟨i1,fun h1 h2 h3=>by show -1::nbR l os=_;rw[i2 h1 h2 h3]⟩
  ·obtain ⟨t,rfl⟩: ∃t,o=some (x::t):=by
    rcases hr1 with ⟨h,-⟩ | ⟨-,h⟩
    ·omega
    ·exact h
   by_cases k:(x::t)∈l
   ·obtain ⟨i1,i2⟩:=nT xs os l c m hr2 hn hh
    have hb:nbL l (some (x::t))=l:=my k
    refine ⟨by show m+l.length<=(nbS (nbL l (some (x::t))) os).length+c;rw[hb];exact i1,fun h1 h2 h3=>?_⟩
    have h3:(nbS (nbL l (some (x::t))) os).length=m:=h3
    rw[hb] at h3
    obtain ⟨q,hq,e1,e2⟩:=oR k
    obtain ⟨t',ht'⟩:=h2 _ hq
    rw[e2] at ht'
    have:x=(q:Int):=by injection ht'
    show nbI l (some (x::t))::nbR (nbL l (some (x::t))) os=_
    rw[e1,<-this,hb,i2 h1 h2 h3]
   ·have hb:nbL l (some (x::t))=l++ [x::t]:=lj k
    obtain ⟨i1,i2⟩:=nT xs os (l++ [x::t]) c m hr2 hn (fun y hy=>by
     rcases aI hy with hy | hy
     ·exact hh y hy
     ·obtain rfl:=ay hy
      exact ⟨x,t,rfl,hxc⟩)
    rw[al,List.length_singleton] at i1
    refine ⟨by show m+l.length<=(nbS (nbL l (some (x::t))) os).length+c;rw[hb];omega,fun h1 h2 h3=>?_⟩
    have h3:(nbS (nbL l (some (x::t))) os).length=m:=h3
    rw[hb] at h3
    omega
  ·obtain ⟨t,rfl⟩: ∃t,o=some ((c:Int)::t):=by
    rcases hr1 with ⟨h,-⟩ | ⟨-,h⟩
    ·omega
    ·exact h
   have k:((c:Int)::t)∉l:=fun k=>by
    obtain ⟨h,t',e,hlt⟩:=hh _ k
    have:(c:Int)=h:=by injection e
    omega
   have hb:nbL l (some ((c:Int)::t))=l++ [(c:Int)::t]:=lj k
   obtain ⟨i1,i2⟩:=nT xs os (l++ [(c:Int)::t]) (c+1) m hr2 hn (fun y hy=>by
    rcases aI hy with hy | hy
    ·obtain ⟨h,t',e,hlt⟩:=hh y hy
     exact ⟨h,t',e,by omega⟩
    ·obtain rfl:=ay hy
     exact ⟨c,t,rfl,by omega⟩)
   have hlen:(l++ [(c:Int)::t]).length=l.length+1:=by simp
   rw[hlen] at i1
   refine ⟨by show m+l.length<=(nbS (nbL l (some ((c:Int)::t))) os).length+c;rw[hb];omega,fun h1 h2 h3=>?_⟩
   have h3:(nbS (nbL l (some ((c:Int)::t))) os).length=m:=h3
   rw[hb] at h3
   have:=i2 (by rw[hlen,h1]) (fun q hq=>by
    by_cases e:q<l.length
    ·rw[List.getElem_append_left e];exact h2 q e
    ·have e:q=l.length:=by omega
     subst e
     exact ⟨t,by simp;omega⟩) h3
   show nbI l (some ((c:Int)::t))::nbR (nbL l (some ((c:Int)::t))) os=_
   rw[hb,this,EA k,h1]
theorem EC (xs ys:List Int) (hN:xs.length<=1048576): ∃r,nj xs ys=some r/\(r=0↔xs=ys):=by
 unfold nj
 have h0:=Xn (f:=oh xs ys) xs ys (fun i h h'=>by
  simp only[oh,bJ h,bJ h',if_true,aD h,aD h',aa,af (show i<9223372036854775807 by omega)]
  by_cases h1:xs[i] < ys[i]
  ·simp[h1]
  ·by_cases h2:xs[i] > ys[i]
   ·simp[h1,h2]
   ·simp[h1,h2]) (fun i hi=>by
  simp only[oh]
  by_cases h1:i<xs.length
  ·have h2: ¬i<ys.length:=by omega
   simp[h1,h2]
  ·simp[h1]) xs.length 0 aX (by omega) (dC _ (by omega))
 rw[show (((0:Nat):Int))=(0:Int) from rfl] at h0
 rcases h0 with ⟨r,e,h1,h2⟩ | ⟨s,e,h1⟩
 ·exact ⟨r,by rw[e];rfl,by simp[h1,h2]⟩
 ·rw[e]
  simp only[aP]
  by_cases c1:xs.length<ys.length
  ·exact ⟨-1,by simp[c1],by simp;intro e;subst e;omega⟩
  ·by_cases c2:xs.length>ys.length
   ·exact ⟨1,by simp[c1,c2],by simp;intro e;subst e;omega⟩
   ·exact ⟨0,by simp[c1,c2],by simpa using h1 (by omega)⟩
theorem Be (xs ys:List Int) (hN:xs.length<=9223372036854775807):b9 xs ys=some (decide (xs=ys)):=
 eqL (f:=cx xs ys) xs ys hN (fun i h h'=>by
  simp only[cx,bJ h,if_true,aD h,aD h',aa,af (show i<9223372036854775807 by omega)]
  by_cases c:xs[i] =ys[i] <;> simp[c]) (by simp only[cx,bm];rfl)
def LR (a:AutT):List Int:=(List.range a.2.1.length).map fun s:Nat=>if nth (live a) (s:Int)=true then (if nth a.2.1 (s:Int)=true then 1 else 0) else -1
def ent (a:AutT) (c:List Int) (s:Int) (k:Nat):Int:=if mv a s k<0 then -1 else nth c (mv a s k)
def ED (a:AutT) (c:List Int) (s:Int):List Int:=nth c s::(List.range 9).map fun k=>ent a c s k
def EJ (a:AutT) (c:List Int) (s:Nat):Option (List Int):=if nth c (s:Int)<0 then none else some (ED a c s)
def keys (a:AutT) (c:List Int):List (Option (List Int)):=(List.range a.2.1.length).map (EJ a c)
def CU (a:AutT) (c:List Int):List Int:=nbR [] (keys a c)
def zf (a:AutT) (c:List Int):Nat:=(nbS [] (keys a c)).length
def cI (a:AutT):Nat->List Int
 | 0=>LR a
 | j+1=>CU a (cI a j)
section
variable {a:AutT} {n:Nat}
theorem dV (a:AutT) (c:List Int):(keys a c).length=a.2.1.length:=by simp[keys]
theorem IK {c:List Int} {s:Nat} (h:s<a.2.1.length):nth (keys a c) (s:Int)=EJ a c s:=by
 rw[bZ (by simpa [keys] using h)];simp[keys]
theorem Bf (a:AutT) (c:List Int):(CU a c).length=a.2.1.length:=by rw[CU,eJ,dV]
theorem nU (a:AutT): ∀j,(cI a j).length=a.2.1.length
 | 0=>by simp[cI,LR]
 | j+1=>Bf a _
theorem qp {κ:Type} [DecidableEq κ] : ∀(l:List κ) (os:List (Option κ)),(nbS l os).length<=l.length+os.length
 | l,[] =>by simp[nbS]
 | l,o::os=>by
  have h:=qp (nbL l o) os
  have:(nbL l o).length<=l.length+1:=by
   cases o with
   | none=>simp[nbL]
   | some x=>unfold nbL;simp only;split <;> simp
  show (nbS (nbL l o) os).length<=_
  rw[ak];omega
theorem IL (a:AutT) (c:List Int):zf a c<=a.2.1.length:=by
 have:=qp ([] :List (List Int)) (keys a c)
 rw[dV] at this
 simpa [zf] using this
theorem EE {c:List Int} {s:Nat} (h:s<a.2.1.length):nth (CU a c) (s:Int)=nbI (nbS [] (keys a c)) (EJ a c s):=by
 rw[CU,TG _ _ _ (by rw[dV];exact h),IK h]
theorem Bg {c:List Int} {s:Nat} (h:s<a.2.1.length) (hc: ¬nth c (s:Int)<0):ED a c s∈nbS [] (keys a c):=by
 refine xg.2 (.inr ?_)
 refine List.mem_map.2 ⟨s,List.mem_range.2 h,?_⟩
 unfold EJ;rw[if_neg hc]
theorem zg {c:List Int} {s:Nat} (h:s<a.2.1.length):(nth (CU a c) (s:Int)<0↔nth c (s:Int)<0)/\(nth (CU a c) (s:Int)<0->nth (CU a c) (s:Int)= -1):=by
 rw[EE h]
 unfold EJ
 by_cases hc:nth c (s:Int)<0
 ·rw[if_pos hc];simp[nbI,hc]
 ·rw[if_neg hc]
  obtain ⟨q,hq,e,-⟩:=oR (Bg h hc)
  rw[e]
  exact ⟨⟨fun h=>by omega,fun h=>absurd h hc⟩,fun h=>by omega⟩
theorem VW {c:List Int} {s:Nat} (h:s<a.2.1.length):nth (CU a c) (s:Int)<(a.2.1.length:Int):=by
 rw[EE h]
 unfold EJ
 by_cases hc:nth c (s:Int)<0
 ·rw[if_pos hc];simp only[nbI];omega
 ·rw[if_neg hc]
  obtain ⟨q,hq,e,-⟩:=oR (Bg h hc)
  have:=IL a c
  unfold zf at this
  rw[e];omega
theorem Pq {c:List Int} {s t:Nat} (hs:s<a.2.1.length) (ht:t<a.2.1.length) (h0:0<=nth (CU a c) (s:Int)) (h:nth (CU a c) (s:Int)=nth (CU a c) (t:Int)):ED a c s=ED a c t:=by
 have n1: ¬nth c (s:Int)<0:=fun k=>by have:=(zg hs).1.2 k;omega
 have n2: ¬nth c (t:Int)<0:=fun k=>by have:=(zg ht).1.2 k;omega
 rw[EE hs,EE ht] at h
 unfold EJ at h
 rw[if_neg n1,if_neg n2] at h
 obtain ⟨q,hq,e1,e2⟩:=oR (Bg hs n1)
 obtain ⟨q',hq',e1',e2'⟩:=oR (Bg ht n2)
 rw[e1,e1'] at h
 obtain rfl:q=q':=by omega
 rw[<-e2,<-e2']
theorem CV (a:AutT) {s:Nat} (h:s<a.2.1.length): ∀j,(nth (cI a j) (s:Int)<0↔nth (live a) (s:Int)=false)/\(nth (cI a j) (s:Int)<0->nth (cI a j) (s:Int)= -1)
 | 0=>by
  have e:nth (cI a 0) (s:Int)=if nth (live a) (s:Int)=true then (if nth a.2.1 (s:Int)=true then 1 else 0) else -1:=by
   show nth (LR a) (s:Int)=_
   rw[bZ (by simpa [LR] using h)];simp[LR]
  rw[e]
  cases nth (live a) (s:Int) <;> cases nth a.2.1 (s:Int) <;> simp
 | j+1=>by
  have ih:=CV a h j
  have:=zg (c:=cI a j) h
  exact ⟨this.1.trans ih.1,this.2⟩
theorem TJ (a:AutT) {s t:Nat} (hs:s<a.2.1.length) (ht:t<a.2.1.length): ∀j,0<=nth (cI a j) (s:Int)->nth (cI a j) (s:Int)=nth (cI a j) (t:Int)->nth a.2.1 (s:Int)=nth a.2.1 (t:Int)
 | 0,h0,h=>by
  have e: ∀ {s:Nat},s<a.2.1.length->nth (cI a 0) (s:Int)=if nth (live a) (s:Int)=true then (if nth a.2.1 (s:Int)=true then 1 else 0) else -1:=by
   intro s h
   show nth (LR a) (s:Int)=_
   rw[bZ (by simpa [LR] using h)];simp[LR]
  rw[e hs] at h0 h
  rw[e ht] at h
  revert h0 h
  cases nth (live a) (s:Int) <;> cases nth a.2.1 (s:Int) <;> cases nth (live a) (t:Int) <;> cases nth a.2.1 (t:Int) <;> simp
 | j+1,h0,h=>by
  have k:=Pq (c:=cI a j) hs ht h0 h
  have h1:nth (cI a j) (s:Int)=nth (cI a j) (t:Int):=by
   unfold ED at k;injection k
  refine TJ a hs ht j ?_ h1
  have:=(zg (c:=cI a j) hs).1
  by_cases q:nth (cI a j) (s:Int)<0
  ·have:=this.2 q
   have h0:0<=nth (CU a (cI a j)) (s:Int):=h0
   omega
  ·omega
theorem VX (a:AutT) (j:Nat):TH (cI a (j+1)) 0 (zf a (cI a j)):=EB (keys a (cI a j)) []
theorem Sc (a:AutT) {c:List Int} (hc:c.length=a.2.1.length):Yl c (keys a c):=by
 refine Pp _ _ (by rw[dV,hc]) fun i h h'=>?_
 have e1:c[i] =nth c (i:Int):=(bZ h).symm
 have e2:(keys a c)[i] =EJ a c i:=by simp[keys]
 rw[e1,e2]
 unfold EJ
 by_cases k:nth c (i:Int)<0
 ·exact .inl ⟨k,by rw[if_pos k]⟩
 ·exact .inr ⟨by omega,_,by rw[if_neg k];rfl⟩
theorem Ps (a:AutT) (j:Nat):zf a (cI a j)<=zf a (cI a (j+1))/\(zf a (cI a (j+1))=zf a (cI a j)->cI a (j+2)=cI a (j+1)):=by
 obtain ⟨h1,h2⟩:=nT (cI a (j+1)) (keys a (cI a (j+1))) [] 0 (zf a (cI a j)) (Sc a (nU a _)) (VX a j) (fun y hy=>by cases hy)
 exact ⟨by simpa [zf] using h1,fun h=>h2 rfl (fun q hq=>absurd hq (Nat.not_lt_zero q)) h⟩
theorem TK {j k:Nat} (h:cI a (j+1)=cI a j) (hk:j<=k):cI a k=cI a j:=by
 induction hk with
 | refl=>rfl
 | step _ ih=>rw[cI,ih];exact h
theorem Pt {j k:Nat} (h:cI a (j+1)=cI a j) (h':cI a (k+1)=cI a k):cI a j=cI a k:=by
 rcases Nat.le_total j k with e | e
 ·exact (TK h e).symm
 ·exact TK h' e
theorem VY (a:AutT): ∃j,j<=a.2.1.length/\cI a (j+1)=cI a j:=by
 by_cases h0:cI a 1=cI a 0
 ·exact ⟨0,Nat.zero_le _,h0⟩
 have hpos:1<=zf a (cI a 0):=by
  refine Nat.one_le_iff_ne_zero.2 fun hz=>h0 ?_
  have hnone: ∀s:Nat,s<a.2.1.length->nth (cI a 0) (s:Int)<0:=fun s hs=>by
   refine Classical.byContradiction fun k=>?_
   have:=Bg (c:=cI a 0) hs k
   have hl:=List.length_pos_of_mem this
   unfold zf at hz;omega
  refine VD (by rw[nU,nU]) fun i hi=>?_
  rw[nU] at hi
  have h1:=(CV a hi 0).2 (hnone i hi)
  have h2:=(CV a hi 1).2 (((CV a hi 1).1.trans (CV a hi 0).1.symm).2 (hnone i hi))
  rw[h1,h2]
 have key: ∀m,(∃j,j<=m/\cI a (j+1)=cI a j)\/m+1<=zf a (cI a m):=by
  intro m
  induction m with
  | zero=>exact .inr hpos
  | succ m ih =>
   rcases ih with ⟨j,hj,e⟩ | ih
   ·exact .inl ⟨j,by omega,e⟩
   ·obtain ⟨g1,g2⟩:=Ps a m
    by_cases e:zf a (cI a (m+1))=zf a (cI a m)
    ·exact .inl ⟨m+1,aC _,g2 e⟩
    ·exact .inr (by omega)
 rcases key a.2.1.length with h | h
 ·exact h
 ·have:=IL a (cI a a.2.1.length);omega
end
end D
namespace D
open Go.RowKit
section
variable {a:AutT} {n:Nat} {c:List Int}
theorem Ka (k:Nat) (s:Int):(List.range (k+1)).map (fun k=>ent a c s k)=(List.range k).map (fun k=>ent a c s k)++ [ent a c s k]:=by simp[List.range_succ]
theorem YZ (V:VA a n) (hn:n<=1000000) (hc:c.length=n) {s:Nat} (hs:s<n):o7 a c s=some (ED a c s):=by
 unfold o7
 rw[aF (by omega) (by omega)];simp only[aa]
 have:=bq (f:=mE a c s) (fun k=>(nth c (s:Int)::(List.range k).map (fun k=>ent a c s k),(k:Int))) 9 (fun k hk=>by
  have hm:=V.mv (s:=s) (k:=k) (by omega) (by omega) hk
  unfold mE
  simp only
  rw[if_pos (by simp;omega),V.get (by omega) (by omega)];simp only[aa]
  rw[V.get2 (by omega) (by omega) hk,Ka];simp only[aa,af (show k<9223372036854775807 by omega)]
  by_cases h:mv a s k<0
  ·rw[if_pos (by simpa using h),aL (by simp;omega),show ent a c s k= -1 from by unfold ent;rw[if_pos h]];rfl
  ·rw[if_neg (by simpa using h),aF (by omega) (by omega)];simp only[aa]
   rw[aL (by simp;omega),show ent a c s k=nth c (mv a s k) from by unfold ent;rw[if_neg h]];rfl) (by unfold mE;simp) (by unfold aX;omega)
 exact aw this
theorem Y0 (V:VA a n) (hn:n<=1000000) (hc:c.length=n) {s:Nat} (hs:s<n):ax (cR c (nth a.2.2 (s:Int))) aX (0,[nth c (s:Int)])=some (.brk (9,ED a c s)):=by
 have hr:=V.rowAt (s:=s) (by omega) (by omega)
 exact bq (f:=cR c (nth a.2.2 (s:Int))) (fun k=>((k:Int),nth c (s:Int)::(List.range k).map (fun k=>ent a c s k))) 9 (fun k hk=>by
  have hm:=V.mv (s:=s) (k:=k) (by omega) (by omega) hk
  unfold cR
  simp only
  rw[if_pos (by simp[hr];omega),V.get2 (by omega) (by omega) hk,Ka];simp only[aa,af (show k<9223372036854775807 by omega)]
  by_cases h:mv a s k<0
  ·have e:mv a s k= -1:=by omega
   rw[if_neg (by simp;omega)];simp only[aa]
   rw[aL (by simp;omega),show ent a c s k=mv a s k from by unfold ent;rw[if_pos h,e]];rfl
  ·rw[if_pos (by simp;omega),aF (by omega) (by omega)];simp only[aa]
   rw[aL (by simp;omega),show ent a c s k=nth c (mv a s k) from by unfold ent;rw[if_neg h]];rfl) (by unfold cR;simp[hr]) (by unfold aX;omega)
theorem GR {κ:Type} [DecidableEq κ] {l t r:List κ} {x:κ} (e:l=t++x::r) (hx:x∉t):nbI l (some x)=(t.length:Int):=by
 subst e
 simp only[nbI]
 rw[List.idxOf_append,if_neg hx,List.idxOf_cons_self,Nat.zero_add]
def XL (l:List (List Int)) (x:List Int):Int:=if x∈l then nbI l (some x) else -1
theorem XM {l:List (List Int)} {x cs:List Int} {q:Int} (hl:l.length<=1000000) (hd:l.Nodup) (hx: ∀y∈l,y.length<=1048576):ax (fy (l,cs,q) x) aX (-1,0)=some (.brk (XL l x,(l.length:Int))):=by
 have:=bq (f:=fy (l,cs,q) x) (fun k=>(if x∈l.take k then nbI l (some x) else -1,(k:Int))) l.length (fun k hk=>by
  unfold fy
  simp only
  rw[if_pos (by simp;omega),aF (by omega) (by omega)];simp only[aa,Int.toNat_natCast,af (show k<9223372036854775807 by omega)]
  obtain ⟨r,e,hr⟩:=EC (nth l (k:Int)) x (hx _ (ct (by omega) (by omega)))
  rw[e,take_one hk];simp only[aa,List.mem_append,List.mem_singleton]
  by_cases h:nth l (k:Int)=x
  ·have h0:r=0:=hr.2 h
   have hm:x∈l:=h ▸ ct (by omega) (by omega)
   obtain ⟨q,hq,e1,e2⟩:=oR hm
   have:q=k:=by
    have h1:l[q]? =some x:=by rw[List.getElem?_eq_getElem hq,e2]
    have h2:l[k]? =some x:=by rw[List.getElem?_eq_getElem hk,<-bZ hk,h]
    exact (List.getElem?_inj hq hd).1 (h1.trans h2.symm)
   subst this
   rw[if_pos (by simp[h0]),if_pos (.inr h.symm),e1];rfl
  ·have h0:r≠0:=fun e=>h (hr.1 e)
   have hn: ¬x=nth l (k:Int):=fun e=>h e.symm
   rw[if_neg (by simpa using h0)]
   simp[hn]) (by unfold fy;simp) (tV (by omega))
 rw[List.take_of_length_le (aC _)] at this
 exact this
theorem XN {l:List (List Int)} {x:List Int} {f:List Int->Option Bool} (hl:l.length<=1000000) (hf: ∀y∈l,f y=some (decide (y=x))):bU l f=some (XL l x):=by
 unfold bU
 obtain ⟨o,e,hq⟩:=cT (f:=cf l f) (fun k s=>s=(k:Int)/\x∉l.take k) (fun o=>(x∈l/\o= .ret (nbI l (some x)))\/(x∉l/\ ∃s,o= .brk s)) l.length (s:=0) (by
  rintro k s hk ⟨rfl,hx⟩
  unfold cf
  by_cases hkl:k<l.length
  ·rw[if_pos (by simp;omega),aF (by omega) (by omega)];simp only[aa]
   rw[hf _ (ct (by omega) (by omega))];simp only[aa]
   by_cases h:nth l (k:Int)=x
   ·refine .inr ⟨_,by rw[if_pos (by simpa using h)],(fun s' e=>by cases e),.inl ?_⟩
    have hm:x∈l:=h ▸ ct (by omega) (by omega)
    refine ⟨hm,?_⟩
    have e:l=l.take k++(x::l.drop (k+1)):=by
     rw[<-h,bZ hkl,<-List.drop_eq_getElem_cons hkl,List.take_append_drop]
    rw[GR e hx,aA,Nat.min_eq_left (by omega)]
   ·refine .inl ⟨hkl,_,by rw[if_neg (by simpa using h)],by rw[af (by omega)],?_⟩
    rw[take_one hkl,List.mem_append,List.mem_singleton]
    rintro (h' | h')
    ·exact hx h'
    ·exact h h'.symm
  ·refine .inr ⟨_,by rw[if_neg (by simp;omega)],(fun s' e=>by cases e),.inr ⟨?_,_,rfl⟩⟩
   rwa [List.take_of_length_le (by omega)] at hx) ⟨rfl,by simp⟩ (tV (by omega))
 unfold XL
 rcases hq with ⟨hx,rfl⟩ | ⟨hx,s,rfl⟩
 ·rw[cd e,if_pos hx]
 ·rw[aw e,if_neg hx]
theorem Bh {os:List (Option (List Int))} (h: ∀y,some y∈os->y.length=10): ∀y∈nbS [] os,y.length=10:=fun y hy=>by
 rcases xg.1 hy with hy | hy
 ·cases hy
 ·exact h y hy
theorem CW (a:AutT) (c:List Int): ∀y,some y∈keys a c->y.length=10:=by
 intro y hy
 obtain ⟨s,-,e⟩:=List.mem_map.1 hy
 unfold EJ at e
 split at e
 ·cases e
 ·rw[<-ae e];simp[ED]
section
variable (V:VA a n) (hn:n<=1000000) (hc:c.length=n)
include V hn hc
theorem Kb (s:Nat):(nbS [] ((keys a c).take s)).length<=n:=by
 have:=qp ([] :List (List Int)) ((keys a c).take s)
 rw[aA,dV,V.len] at this
 simp at this;omega
theorem Sd {m:Int} :ax (fA a (c,m)) aX ([],[],0)=some (.brk (nbS [] (keys a c),CU a c,(n:Int))):=by
 have hlen:=V.len
 have:=bq (f:=fA a (c,m)) (fun s=>(nbS [] ((keys a c).take s),nbR [] ((keys a c).take s),(s:Int))) n (fun s hs=>by
  have hkl:=Kb V hn hc s
  have hrl:(nbR [] ((keys a c).take s)).length<=n:=by rw[eJ,aA,dV];omega
  unfold fA
  simp only
  rw[if_pos (by simp;omega),aF (by omega) (by omega)];simp only[aa]
  rw[take_one (by rw[dV];omega),vZ,sV,IK (by omega)]
  simp only[af (show s<9223372036854775807 by omega)]
  by_cases h:nth c (s:Int)<0
  ·rw[if_pos (by simpa using h),aL (by simp;omega),show EJ a c s=none from by unfold EJ;rw[if_pos h]];rfl
  ·rw[if_neg (by simpa using h),show EJ a c s=some (ED a c s) from by unfold EJ;rw[if_neg h]]
   rw[show o7 (a.1,a.2.1,a.2.2) c (s:Int)=some (ED a c s) from YZ V hn hc hs];simp only[aa]
   rw[aw (XM (by omega) (sj (by simp)) (fun y hy=>by rw[Bh (fun y hy=>CW a c y (List.mem_of_mem_take hy)) y hy];decide))]
   simp only
   unfold XL
   by_cases k:ED a c s∈nbS [] ((keys a c).take s)
   ·obtain ⟨q,hq,e1,e2⟩:=oR k
    rw[if_pos k,my k,e1,if_neg (by simp)];simp only[aa]
    rw[aL (by simp;omega)];rfl
   ·rw[if_neg k,lj k,EA k,if_pos (show decide ((-1:Int)<0)=true from rfl),aL (by simp;omega)];simp only[aa]
    rw[aL (by simp;omega)];rfl) (by
  unfold fA
  simp only
  rw[if_neg (by simp;omega)]) (tV (by omega))
 rw[show (keys a c).take n=keys a c from List.take_of_length_le (by rw[dV];omega)] at this
 exact this
theorem Se:dA a c=some (CU a c,(zf a c:Int)):=by
 have hlen:=V.len
 unfold dA
 have:=bq (f:=dD a c) (fun s=>(nbS [] ((keys a c).take s),nbR [] ((keys a c).take s),(s:Int))) n (fun s hs=>by
  have hkl:=Kb V hn hc s
  have hrl:(nbR [] ((keys a c).take s)).length<=n:=by rw[eJ,aA,dV];omega
  unfold dD
  simp only
  rw[if_pos (by simp;omega),aF (by omega) (by omega)];simp only[aa]
  rw[take_one (by rw[dV];omega),vZ,sV,IK (by omega)]
  simp only[af (show s<9223372036854775807 by omega)]
  by_cases h:nth c (s:Int)<0
  ·rw[if_pos (by simpa using h),aL (by simp;omega),show EJ a c s=none from by unfold EJ;rw[if_pos h]];rfl
  ·rw[if_neg (by simpa using h),show EJ a c s=some (ED a c s) from by unfold EJ;rw[if_neg h],V.get (by omega) (by omega)];simp only[aa]
   rw[aw (Y0 V hn hc hs)];simp only
   rw[XN (x:=ED a c s) (by omega) (fun y hy=>by
    unfold gD
    rw[Be _ _ (by rw[Bh (fun y hy=>CW a c y (List.mem_of_mem_take hy)) y hy];decide)];rfl)];simp only[aa]
   unfold XL
   by_cases k:ED a c s∈nbS [] ((keys a c).take s)
   ·obtain ⟨q,hq,e1,e2⟩:=oR k
    rw[if_pos k,my k,e1,if_neg (by simp)];simp only[aa]
    rw[aL (by simp;omega)];rfl
   ·rw[if_neg k,lj k,EA k,if_pos (show decide ((-1:Int)<0)=true from rfl),aL (by simp;omega)];simp only[aa]
    rw[aL (by simp;omega)];rfl) (by
  unfold dD
  simp only
  rw[if_neg (by simp;omega)]) (tV (by omega))
 rw[show (keys a c).take n=keys a c from List.take_of_length_le (by rw[dV];omega)] at this
 exact aw this
end
end
section
variable {a:AutT} {n:Nat} (V:VA a n) (hn:n<=1000000)
include V hn
theorem GS (s:Nat):(List.range (s+1)).map (fun s:Nat=>if nth (live a) (s:Int)=true then (if nth a.2.1 (s:Int)=true then (1:Int) else 0) else -1)=(List.range s).map (fun s:Nat=>if nth (live a) (s:Int)=true then (if nth a.2.1 (s:Int)=true then 1 else 0) else -1)++ [if nth (live a) (s:Int)=true then (if nth a.2.1 (s:Int)=true then 1 else 0) else -1]:=by simp[List.range_succ]
theorem XO:ax (fx a (live a)) aX ([],0)=some (.brk (LR a,(n:Int))):=by
 have hlen:=V.len
 have hll:(live a).length=n:=by rw[uP,hlen]
 have:=bq (f:=fx a (live a)) (fun s=>((List.range s).map (fun s:Nat=>if nth (live a) (s:Int)=true then (if nth a.2.1 (s:Int)=true then (1:Int) else 0) else -1),(s:Int))) n (fun s hs=>by
  unfold fx
  simp only
  rw[if_pos (by simp;omega),V.acc (by omega) (by omega)];simp only[aa]
  rw[GS V hn,aF (xs:=live a) (by omega) (by omega)];simp only[af (show s<9223372036854775807 by omega)]
  cases nth (live a) (s:Int) <;> cases nth a.2.1 (s:Int) <;> simp only[if_true,if_false,Bool.false_eq_true,aa] <;> rw[aL (by simp;omega)] <;> rfl) (by
  unfold fx
  simp only
  rw[if_neg (by simp;omega)]) (tV (by omega))
 unfold LR
 rw[hlen]
 exact this
theorem XP:ax (cC a (live a)) aX ([],0)=some (.brk (LR a,(n:Int))):=by
 have hlen:=V.len
 have hll:(live a).length=n:=by rw[uP,hlen]
 have:=bq (f:=cC a (live a)) (fun s=>((List.range s).map (fun s:Nat=>if nth (live a) (s:Int)=true then (if nth a.2.1 (s:Int)=true then (1:Int) else 0) else -1),(s:Int))) n (fun s hs=>by
  unfold cC
  simp only
  rw[if_pos (by simp;omega),aF (xs:=live a) (by omega) (by omega)];simp only[aa]
  rw[GS V hn,V.acc (by omega) (by omega)];simp only[af (show s<9223372036854775807 by omega)]
  cases nth (live a) (s:Int) <;> cases nth a.2.1 (s:Int) <;> simp only[if_true,if_false,Bool.false_eq_true,aa] <;> rw[aL (by simp;omega)] <;> rfl) (by
  unfold cC
  simp only
  rw[if_neg (by simp;omega)]) (tV (by omega))
 unfold LR
 rw[hlen]
 exact this
theorem Pu: ∃J,cI a (J+1)=cI a J/\iX a=some (cI a J):=by
 have hlen:=V.len
 unfold iX
 rw[show kX (a.1,a.2.1,a.2.2)=some (live a) from Tz V hn];simp only[aa]
 rw[aw (XO V hn)]
 obtain ⟨J0,hJ0,hfix⟩:=VY a
 obtain ⟨o,e,j,rfl,hj⟩:=cT (f:=kY a) (fun j s=>s=(cI a j,(j:Int))/\j<=J0) (fun o=> ∃j,o= .ret (cI a j)/\cI a (j+1)=cI a j) (J0+1) (s:=(cI a 0,0)) (by
  rintro j s hj ⟨rfl,hjJ⟩
  have hcl:(cI a j).length=n:=by rw[nU,hlen]
  unfold kY
  simp only
  rw[if_pos (by simp;omega),aw (Sd V hn hcl)]
  simp only
  obtain ⟨r,er,hr⟩:=EC (CU a (cI a j)) (cI a j) (by rw[Bf];omega)
  rw[er];simp only[aa,af (show j<9223372036854775807 by omega)]
  by_cases h:CU a (cI a j)=cI a j
  ·exact .inr ⟨_,by rw[if_pos (by simpa using hr.2 h)],(fun s' e=>by cases e),j,rfl,h⟩
  ·refine .inl ⟨by omega,(cI a (j+1),((j+1:Nat):Int)),by rw[if_neg (by simpa using fun e=>h (hr.1 e))];rfl,rfl,?_⟩
   by_cases e:j=J0
   ·subst e;exact absurd hfix h
   ·omega) ⟨rfl,Nat.zero_le _⟩ (tV (by omega))
 exact ⟨j,hj,cd e⟩
theorem Pv: ∃J,cI a (J+1)=cI a J/\dq a=some (cI a J):=by
 have hlen:=V.len
 unfold dq
 rw[show eN (a.1,a.2.1,a.2.2)=some (live a) from XC V hn];simp only[aa]
 rw[aw (XP V hn)]
 let kk:Nat->Int:=fun j=>match j with | 0=> -1 | i+1=>(zf a (cI a i):Int)
 obtain ⟨o,e,j,rfl,hj⟩:=cT (f:=fE a) (fun j s=>s=(cI a j,kk j)/\(j:Int)<=kk j+1) (fun o=> ∃j,o= .ret (cI a j)/\cI a (j+1)=cI a j) (n+2) (s:=(cI a 0,-1)) (by
  rintro j s hj ⟨rfl,hjk⟩
  have hcl:(cI a j).length=n:=by rw[nU,hlen]
  have hle:=IL a (cI a j)
  unfold fE
  simp only
  rw[show dA (a.1,a.2.1,a.2.2) (cI a j)=some (CU a (cI a j),(zf a (cI a j):Int)) from Se V hn hcl];simp only[aa]
  cases j with
  | zero =>
   refine .inl ⟨by omega,(cI a 1,kk 1),by rw[if_neg (by show¬((zf a (cI a 0):Int) == -1)=true;simp)];rfl,rfl,?_⟩
   show (1:Int)<=(zf a (cI a 0):Int)+1
   omega
  | succ i =>
   obtain ⟨g1,g2⟩:=Ps a i
   have hki:kk (i+1)=(zf a (cI a i):Int):=rfl
   rw[hki] at hjk⊢
   by_cases h:zf a (cI a (i+1))=zf a (cI a i)
   ·refine .inr ⟨.ret (cI a (i+2)),by rw[if_pos (by simp[h])];rfl,(fun s' e=>by cases e),i+2,rfl,?_⟩
    have:=g2 h
    show CU a (cI a (i+2))=cI a (i+2)
    rw[this];exact this
   ·refine .inl ⟨?_,(cI a (i+2),kk (i+2)),by rw[if_neg (by simp;omega)];rfl,rfl,?_⟩
    ·omega
    ·show ((i+1+1:Nat):Int)<=(zf a (cI a (i+1)):Int)+1
     omega) ⟨rfl,by show ((0:Nat):Int)<= -1+1;omega⟩ (tV (by omega))
 exact ⟨j,hj,cd e⟩
theorem LD: ∃c,iX a=some c/\dq a=some c/\c.length=n/\CU a c=c/\ ∃j,c=cI a j:=by
 obtain ⟨J,hJ,es⟩:=Pu V hn
 obtain ⟨J',hJ',ei⟩:=Pv V hn
 have:=Pt hJ hJ'
 exact ⟨cI a J,es,by rw[this];exact ei,by rw[nU,V.len],hJ,J,rfl⟩
end
end D
namespace D
open Go.RowKit
section
variable {κ:Type} [DecidableEq κ] [Inhabited κ] {nx:κ->List (Option κ)} {first:κ} {G:κ->Prop} {B N:Nat} {acc:κ->Bool}
theorem Bi: ∀(l:List κ) (os:List (Option κ)),∀t∈nbR l os,-1<=t/\t<((nbS l os).length:Int)
 | l,[] =>fun t ht=>by cases ht
 | l,o::os=>fun t ht=>by
  have hp:=lh (nbL l o) os
  have hl:=hp.length_le
  rcases aE ht with rfl | ht
  ·show -1<=nbI l o/\nbI l o<((nbS (nbL l o) os).length:Int)
   cases o with
   | none=>exact ⟨by simp[nbI],by simp only[nbI];omega⟩
   | some y =>
    by_cases c:y∈l
    ·obtain ⟨q,hq,e,-⟩:=oR c
     rw[my c] at hl
     rw[e];exact ⟨by omega,by rw[my c];omega⟩
    ·rw[lj c] at hl
     rw[EA c];rw[al] at hl
     exact ⟨by omega,by rw[lj c];simp at hl;omega⟩
  ·exact Bi (nbL l o) os t ht
theorem XQ (H:NumOk nx first G B) (hN:bfE nx first N):VA ((0,(bfS nx first N).map acc,bfR nx first N):AutT) N:=by
 have h0:0<N:=by
  have:=GF (nx:=nx) (first:=first) N
  have:=(List.getElem?_eq_some_iff.1 this).1
  have:=hN.1;omega
 have key: ∀i,i<=N-> ∀r∈bfR nx first i,r.length=9/\ ∀t∈r,-1<=t/\t<(N:Int):=by
  intro i
  induction i with
  | zero=>intro _ r hr;cases hr
  | succ i ih =>
   intro hi r hr
   have hlt:=hN.2 i (by omega)
   rw[v7 hlt] at hr
   rcases aI hr with hr | hr
   ·exact ih (by omega) r hr
   ·obtain rfl:=ay hr
    refine ⟨by rw[eJ,H.len _ (kJ H.g0 H.gn i _ (List.getElem_mem hlt))],fun t ht=>?_⟩
    have:=Bi _ _ t ht
    rw[<-D7 hlt] at this
    have hl:=(xh (nx:=nx) (first:=first) hi).length_le
    have:=hN.1
    omega
 exact ⟨by show ((bfS nx first N).map acc).length=N;rw[List.length_map];exact hN.1.symm,⟨Int.le_refl _,by show (0:Int)<N;omega⟩,jS hN.2,fun r hr=>(key N (aC _) r hr).1,fun r hr=>(key N (aC _) r hr).2⟩
theorem VZ (hlen: ∀x,(nx x).length=9) (hN:bfE nx first N):VA ((0,(bfS nx first N).map acc,bfR nx first N):AutT) N:=by
 have h0:0<N:=by
  have:=GF (nx:=nx) (first:=first) N
  have:=(List.getElem?_eq_some_iff.1 this).1
  have:=hN.1;omega
 have key: ∀i,i<=N-> ∀r∈bfR nx first i,r.length=9/\ ∀t∈r,-1<=t/\t<(N:Int):=by
  intro i
  induction i with
  | zero=>intro _ r hr;cases hr
  | succ i ih =>
   intro hi r hr
   have hlt:=hN.2 i (by omega)
   rw[v7 hlt] at hr
   rcases aI hr with hr | hr
   ·exact ih (by omega) r hr
   ·obtain rfl:=ay hr
    refine ⟨by rw[eJ,hlen _],fun t ht=>?_⟩
    have:=Bi _ _ t ht
    rw[<-D7 hlt] at this
    have hl:=(xh (nx:=nx) (first:=first) hi).length_le
    have:=hN.1
    omega
 exact ⟨by show ((bfS nx first N).map acc).length=N;rw[List.length_map];exact hN.1.symm,⟨Int.le_refl _,by show (0:Int)<N;omega⟩,jS hN.2,fun r hr=>(key N (aC _) r hr).1,fun r hr=>(key N (aC _) r hr).2⟩
end
theorem VA.self {a:AutT} {n:Nat} (v:VA a n):VA a a.2.1.length:=by
 have e:=v.len
 subst e
 exact v
theorem LF:VA nothing 1:=⟨rfl,⟨by decide,by decide⟩,rfl,fun r hr=>by
 obtain rfl:=ay hr
 decide,fun r hr=>by
 obtain rfl:=ay hr
 decide⟩
end D
namespace D
open Go.RowKit
theorem V0 {l:List Int} {x:Int} (hl:l.length<=1000000) (hx:x∈l):ba x l=some (nbI l (some x)):=by
 unfold ba eD
 obtain ⟨o,e,hq⟩:=cT (f:=dx l x) (fun k s=>s=(k:Int)/\x∉l.take k) (fun o=>o= .ret (nbI l (some x))) l.length (s:=0) (by
  rintro k s hk ⟨rfl,hx'⟩
  unfold dx
  by_cases hkl:k<l.length
  ·rw[if_pos (by simp;omega),aF (by omega) (by omega)];simp only[aa]
   by_cases h:nth l (k:Int)=x
   ·refine .inr ⟨_,by rw[if_pos (by simp[h])],(fun s' e=>by cases e),?_⟩
    have e:l=l.take k++(x::l.drop (k+1)):=by
     rw[<-h,bZ hkl,<-List.drop_eq_getElem_cons hkl,List.take_append_drop]
    rw[GR e hx',aA,Nat.min_eq_left (by omega)]
   ·have h': ¬x=nth l (k:Int):=fun e=>h e.symm
    refine .inl ⟨hkl,_,by rw[if_neg (by simpa using h')],by rw[af (by omega)],?_⟩
    rw[take_one hkl,List.mem_append,List.mem_singleton]
    rintro (h' | h')
    ·exact hx' h'
    ·exact h h'.symm
  ·rw[List.take_of_length_le (by omega)] at hx'
   exact absurd hx hx') ⟨rfl,by simp⟩ (tV (by omega))
 subst hq
 rw[cd e];rfl
section
variable {a:AutT} {n:Nat}
def rep (c:List Int) (x:Int):Int:=nbI c (some x)
theorem Pw {c:List Int} {x:Int} (h:x∈c):0<=rep c x/\rep c x<c.length/\nth c (rep c x)=x:=by
 obtain ⟨q,hq,e1,e2⟩:=oR h
 unfold rep
 rw[e1]
 exact ⟨by omega,by omega,by rw[bZ hq,e2]⟩
theorem LG (V:VA a n) (hn:n<=1000000): ∃r,gU a=some r/\cZ a=some r/\Data.sm r/\VA r r.2.1.length/\r.2.1.length<=n:=by
 have hlen:=V.len
 have hst:=V.start
 have hll:(live a).length=n:=by rw[uP,hlen]
 obtain ⟨c,es,ei,hcl,hfix,j,hj⟩:=LD V hn
 have hneg: ∀s:Int,0<=s->s<n->(nth c s<0↔nth (live a) s=false):=fun s h0 h1=>by
  have:=(CV a (s:=s.toNat) (by omega) j).1
  rw[<-hj,show ((s.toNat:Nat):Int)=s from by omega] at this
  exact this
 have hlt: ∀s:Int,0<=s->s<n->nth c s<n:=fun s h0 h1=>by
  have:=VW (c:=c) (a:=a) (s:=s.toNat) (by omega)
  rw[hfix,hlen,show ((s.toNat:Nat):Int)=s from by omega] at this
  exact this
 have hpos: ∀r,good n (live a) r->0<=nth c r:=fun r hr=>by
  have:=hneg r hr.1 hr.2.1
  by_cases k:nth c r<0
  ·have:=this.1 k;rw[hr.2.2] at this;cases this
  ·omega
 have hkey: ∀r t:Int,0<=r->r<n->0<=t->t<n->0<=nth c r->nth c r=nth c t->ED a c r=ED a c t:=fun r t r0 r1 t0 t1 h0 h=>by
  have:=Pq (a:=a) (c:=c) (s:=r.toNat) (t:=t.toNat) (by omega) (by omega) (by rw[hfix,show ((r.toNat:Nat):Int)=r from by omega];exact h0) (by rw[hfix,show ((r.toNat:Nat):Int)=r from by omega,show ((t.toNat:Nat):Int)=t from by omega];exact h)
  rwa [show ((r.toNat:Nat):Int)=r from by omega,show ((t.toNat:Nat):Int)=t from by omega] at this
 have hacc: ∀r t:Int,0<=r->r<n->0<=t->t<n->0<=nth c r->nth c r=nth c t->nth a.2.1 r=nth a.2.1 t:=fun r t r0 r1 t0 t1 h0 h=>by
  have:=TJ a (s:=r.toNat) (t:=t.toNat) (by omega) (by omega) j (by rw[<-hj,show ((r.toNat:Nat):Int)=r from by omega];exact h0) (by rw[<-hj,show ((r.toNat:Nat):Int)=r from by omega,show ((t.toNat:Nat):Int)=t from by omega];exact h)
  rwa [show ((r.toNat:Nat):Int)=r from by omega,show ((t.toNat:Nat):Int)=t from by omega] at this
 have hsuccs: ∀r,good n (live a) r->xp a c (live a) r=(List.range 9).map fun k=>if 0<=ent a c r k then some (ent a c r k) else none:=fun r hr=>by
  refine List.map_congr_left fun k hk=>?_
  have hk:k<9:=List.mem_range.1 hk
  have hm:=V.mv hr.1 hr.2.1 hk
  unfold ent
  by_cases h:mv a r k<0
  ·rw[if_pos h,if_neg (fun h'=>by omega),if_neg (by omega)]
  ·rw[if_neg h]
   have:=hneg (mv a r k) (by omega) hm.2
   cases hl:nth (live a) (mv a r k) with
   | false =>
    have:=this.2 hl
    rw[if_neg (fun h'=>by cases h'.2),if_neg (by omega)]
   | true =>
    have: ¬nth c (mv a r k)<0:=fun h'=>by have:=this.1 h';rw[hl] at this;cases this
    rw[if_pos ⟨by omega,rfl⟩,if_pos (by omega)]
 have hent: ∀r t:Int,ED a c r=ED a c t-> ∀k,k<9->ent a c r k=ent a c t k:=fun r t h k hk=>by
  have h:(List.range 9).map (fun k=>ent a c r k)=(List.range 9).map (fun k=>ent a c t k):=by unfold ED at h;injection h
  have:=congrArg (fun l:List Int=>l[k]?) h
  simpa [hk] using this
 let nx:Int->List (Option Int):=fun x=>xp a c (live a) (rep c x)
 let acc:Int->Bool:=fun x=>nth a.2.1 (rep c x)
 let G:Int->Prop:=fun x=> ∃r,good n (live a) r/\nth c r=x
 have Gm: ∀x,G x->x∈c/\0<=x/\good n (live a) (rep c x):=by
  rintro x ⟨r,hr,rfl⟩
  have hm:nth c r∈c:=ct hr.1 (by rw[hcl];exact hr.2.1)
  obtain ⟨h0,h1,h2⟩:=Pw hm
  have hp:=hpos r hr
  refine ⟨hm,hp,h0,by omega,?_⟩
  have:=hneg (rep c (nth c r)) h0 (by omega)
  rw[h2] at this
  cases hl:nth (live a) (rep c (nth c r)) with
  | true=>rfl
  | false=>have:=this.2 hl;omega
 have hnx: ∀r,good n (live a) r->nx (nth c r)=xp a c (live a) r:=fun r hr=>by
  obtain ⟨hm,hp,hg⟩:=Gm _ ⟨r,hr,rfl⟩
  obtain ⟨h0,h1,h2⟩:=Pw hm
  show xp a c (live a) (rep c (nth c r))=_
  rw[hsuccs _ hg,hsuccs _ hr]
  refine List.map_congr_left fun k hk=>?_
  rw[hent _ _ (hkey _ _ hg.1 hg.2.1 hr.1 hr.2.1 (by rw[h2];exact hp) h2) k (List.mem_range.1 hk)]
 have hac: ∀r,good n (live a) r->acc (nth c r)=nth a.2.1 r:=fun r hr=>by
  obtain ⟨hm,hp,hg⟩:=Gm _ ⟨r,hr,rfl⟩
  obtain ⟨h0,h1,h2⟩:=Pw hm
  exact hacc _ _ hg.1 hg.2.1 hr.1 hr.2.1 (by rw[h2];exact hp) h2
 have hgn: ∀r,good n (live a) r-> ∀y,some y∈xp a c (live a) r->G y:=fun r hr y h=>by
  obtain ⟨k,hk,e⟩:=List.mem_map.1 h
  have hk:k<9:=List.mem_range.1 hk
  split at e
  ·rename_i hc
   exact ⟨mv a r k,⟨hc.1,(V.mv hr.1 hr.2.1 hk).2,hc.2⟩,ae e⟩
  ·cases e
 unfold gU cZ
 simp only[dU]
 rw[es,ei,Tz V hn];simp only[aa]
 rw[aF hst.1 (by omega)];simp only[aa]
 cases hs:nth (live a) a.1 with
 | false =>
  have:=(hneg a.1 hst.1 hst.2).2 hs
  rw[IG V hll hs,if_pos (by simpa using this),Pi]
  exact ⟨nothing,rfl,rfl,LB,LF,V.pos⟩
 | true =>
  have hst':good n (live a) a.1:=⟨hst.1,hst.2,hs⟩
  have hp:=hpos _ hst'
  have H:NumOk nx (nth c a.1) G n:=⟨⟨a.1,hst',rfl⟩,fun x hx y hy=>hgn _ (Gm x hx).2.2 y hy,fun x hx=>by simp[nx,xp],fun l hd h=>LA n l hd fun x hx=>by
   obtain ⟨r,hr,rfl⟩:=h x hx
   exact ⟨hpos r hr,hlt r hr.1 hr.2.1⟩⟩
  obtain ⟨N,hN,e1⟩:=XE (acc:=acc) V hn hcl hll hs H hn hnx hac
  have hfirst: ∀x,G x->ba x c=some (rep c x):=fun x hx=>V0 (by omega) (Gm x hx).1
  obtain ⟨N',hN',e2⟩:=XD (most:=(c.length:Int)) (p2:=fun a0=>cD a0 (a.1,a.2.1,a.2.2) (fun a0=>ba a0 c)) (p3:=fun a0 a1=>cE a0 a1 (a.1,a.2.1,a.2.2) (fun a0=>ba a0 c) c) (acc:=acc) H hn (by omega) (fun x hx=>XJ hn (Gm x hx).2.1 (by
    obtain ⟨r,hr,rfl⟩:=hx
    exact hlt r hr.1 hr.2.1)) (fun x hx=>by
   show cD x (a.1,a.2.1,a.2.2) (fun a0=>ba a0 c)=_
   unfold cD
   simp only
   rw[hfirst x hx];simp only[aa]
   rw[V.acc (Gm x hx).2.2.1 (Gm x hx).2.2.2.1];rfl) (fun x k hx hk=>by
   obtain ⟨hm,hx0,hg⟩:=Gm x hx
   have hm':=V.mv hg.1 hg.2.1 hk
   refine ⟨0,?_⟩
   show cE x k (a.1,a.2.1,a.2.2) (fun a0=>ba a0 c) c=_
   unfold cE
   simp only
   rw[hfirst x hx];simp only[aa]
   rw[show eO (a.1,a.2.1,a.2.2) (rep c x) k=some (mv a (rep c x) k) from Xr V hg.1 hg.2.1 hk];simp only[aa]
   show _=some (match nth (xp a c (live a) (rep c x)) (k:Int) with | some y=>(y,true) | none=>(0,false))
   rw[J7 hk]
   by_cases h:mv a (rep c x) k<0
   ·rw[if_pos (by simpa using h),if_neg (fun h'=>by omega)]
   ·rw[if_neg (by simpa using h),aF (by omega) (by omega)];simp only[aa]
    have hng:=hneg (mv a (rep c x) k) (by omega) hm'.2
    cases hl:nth (live a) (mv a (rep c x) k) with
    | false =>
     have:=hng.2 hl
     rw[if_pos (by simpa using this),if_neg (fun h'=>by cases h'.2)]
    | true =>
     have: ¬nth c (mv a (rep c x) k)<0:=fun h'=>by have:=hng.1 h';rw[hl] at this;cases this
     rw[if_neg (by simpa using this),if_pos ⟨by omega,rfl⟩])
  obtain rfl:=RB hN hN'
  have v:=XQ (acc:=acc) H hN
  refine ⟨_,by rw[e1];rfl,?_,XK H hn hN,v.self,?_⟩
  rotate_left
  ·rw[v.len,hN.1];exact H.bound _ (nQ N) (kJ H.g0 H.gn N)
  rw[if_neg (by simp;omega)]
  exact (congrArg (fun x=>Option.bind x _) e2).trans rfl
theorem Sf (V:VA a n) (hn:n<=1000000): ∃r,gU a=some r/\cZ a=some r/\Data.sm r:=by
 obtain ⟨r,h1,h2,h3,-⟩:=LG V hn
 exact ⟨r,h1,h2,h3⟩
end
end D
namespace D
open Go.RowKit
theorem EF:Data.sm ((0,[],[]):AutT):=⟨trivial,⟨by decide,fun _ h=>by cases h⟩,by decide,fun _ h=>by cases h⟩
theorem Px {κ:Type} [DecidableEq κ] {nx:κ->List (Option κ)} {first:κ} {acc:κ->Bool} {most:Nat} : ∀(f i:Nat),(∀j,j<i->j<(bfS nx first j).length)->(bfS nx first i).length<=most->goM nx first acc most f i=((0,[],[]),false)\/ ∃N,bfE nx first N/\N<=most/\goM nx first acc most f i=((0,(bfS nx first N).map acc,bfR nx first N),true)
 | 0,i,_,_=>.inl rfl
 | f+1,i,h,hl=>by
  have hle:=Ez h
  rw[goM]
  by_cases c:i<(bfS nx first i).length
  ·rw[if_pos c]
   by_cases d:(bfS nx first (i+1)).length>most
   ·rw[if_pos d];exact .inl rfl
   ·rw[if_neg d]
    exact Px f (i+1) (fun j hj=>by
     by_cases e:j=i
     ·subst e;exact c
     ·exact h j (by omega)) (by omega)
  ·rw[if_neg c]
   exact .inr ⟨i,⟨by omega,h⟩,by omega,by rw[List.take_of_length_le (by omega)]⟩
theorem GT {e:List Tok} (he:e.length<=1048576): ∃r:AutT×Bool,gV e=some r/\hZ e=some r/\Data.sm r.1:=by
 obtain ⟨⟨p,b⟩,e1,e2,h1,h2⟩:=uQ he
 have h1:p.2.2.2.1.length=p.1.length:=h1
 have h2:p.1.length<=100000:=h2
 unfold gV hZ
 rw[e1,e2];simp only[aa,dU]
 cases b with
 | false=>exact ⟨((0,[],[]),false),rfl,rfl,EF⟩
 | true =>
  have d1:=YW (p:=p) (most:=200) h1 (by omega) (by omega) (by omega)
  have d2:=YV (p:=p) (most:=200) h1 (by omega) (by omega) (by omega)
  have d1:iU p 200=_:=d1
  have d2:hH p 200=_:=d2
  rw[d1,d2];simp only[if_true,aa]
  rcases Px (nx:=nxS p) (first:=1) (acc:=wm p) (most:=200) (200+2) 0 (fun j hj=>by omega) (by simp[bfS]) with e | ⟨N,hN,hNm,e⟩
  ·rw[e]
   exact ⟨((0,[],[]),false),rfl,rfl,EF⟩
  ·rw[e];simp only[if_true]
   have V:=VZ (acc:=wm p) (Ey p) hN
   obtain ⟨r,es,ei,hr⟩:=Sf V (by omega)
   unfold Af
   rw[es];simp only[aa,dU]
   rw[ei];simp only[aa,dU]
   by_cases c:(r.2.1.length:Int)>12
   ·have c':decide ((r.2.1.length:Int)>12)=true:=decide_eq_true c
    simp only[c',if_true,aa]
    exact ⟨((0,[],[]),false),rfl,rfl,EF⟩
   ·have c':decide ((r.2.1.length:Int)>12)=false:=decide_eq_false c
    simp only[c',Bool.false_eq_true,if_false,aa]
    exact ⟨(r,true),rfl,rfl,hr⟩
theorem IM {e:List Tok} (he:e.length<=1048576): ∃r:AutT×Bool,gV e=some r/\hZ e=some r/\Data.sm r.1:=GT he
end D
set_option synthInstance.maxSize 20000
set_option synthInstance.maxHeartbeats 2000000
namespace D
open Go.RowKit
theorem Bj (x y:AutT) (hx:Data.sm x):fB x y=some (decide (x=y)):=by
 obtain ⟨-,⟨ha,-⟩,hn,hr⟩:=hx
 unfold fB
 by_cases c1:x.1=y.1
 case neg=>rw[if_pos (by simpa using c1)];simp[Prod.ext_iff,c1]
 rw[if_neg (by simpa using c1)]
 by_cases c2:x.2.1.length=y.2.1.length
 case neg=>rw[if_pos (by simp;omega)];simp[Prod.ext_iff];exact fun _ e=>absurd (by rw[e]) c2
 rw[if_neg (by simp;omega)]
 by_cases c3:x.2.2.length=y.2.2.length
 case neg=>rw[if_pos (by simp;omega)];simp[Prod.ext_iff];exact fun _ _ e=>absurd (by rw[e]) c3
 rw[if_neg (by simp;omega)]
 rw[eqB (f:=fg x y) x.2.1 y.2.1 (by omega) c2 (fun i h h'=>by
  simp only[fg,bJ h,if_true,aD h,aD h',aa,af (show i<9223372036854775807 by omega)]
  by_cases c:x.2.1[i] =y.2.1[i] <;> simp[c]) (by simp only[fg,bm];rfl)]
 by_cases c4:x.2.1=y.2.1
 case neg=>rw[if_neg c4];simp[Prod.ext_iff,c4]
 rw[if_pos c4]
 rw[eqB (f:=fh x y) x.2.2 y.2.2 (by omega) c3 (fun i h h'=>by
  obtain ⟨r,e,hr'⟩:=EC x.2.2[i] y.2.2[i] ((hr _ (List.getElem_mem h)).1)
  simp only[fh,bJ h,if_true,aD h,aD h',aa,af (show i<9223372036854775807 by omega),e]
  by_cases c:x.2.2[i] =y.2.2[i]
  ·rw[if_neg (by simpa using hr'.2 c),if_pos c]
  ·rw[if_pos (by simpa using fun e=>c (hr'.1 e)),if_neg c]) (by simp only[fh,bm];rfl)]
 by_cases c5:x.2.2=y.2.2
 ·rw[if_pos c5];simp[Prod.ext_iff,c1,c4,c5]
 ·rw[if_neg c5];simp[Prod.ext_iff,c5]
theorem Si (xs ys:List Bool) (hN:xs.length<=9223372036854775807):dE xs ys=some (decide (xs=ys)):=
 eqL (f:=b8 xs ys) xs ys hN (fun i h h'=>by
  simp only[b8,bJ h,if_true,aD h,aD h',aa,af (show i<9223372036854775807 by omega)]
  by_cases c:xs[i] =ys[i] <;> simp[c]) (by simp only[b8,bm];rfl)
theorem Bk (x y:AutT) (hx:Data.sm x):dK x y=some (decide (x=y)):=by
 obtain ⟨-,⟨ha,-⟩,hn,hr⟩:=hx
 unfold dK
 by_cases c1:x.1=y.1
 case neg=>rw[if_neg (by simpa using c1)];simp[Prod.ext_iff,c1]
 rw[if_pos (by simpa using c1),Si _ _ (by omega)];simp only[aa]
 by_cases c2:x.2.1=y.2.1
 case neg=>rw[if_neg (by simpa using c2)];simp[Prod.ext_iff,c2]
 rw[if_pos (by simpa using c2)]
 have:bN x.2.2 y.2.2 (fun a0 a1=>fW a0 a1)=some (decide (x.2.2=y.2.2)):=
  eqL (f:=a7 x.2.2 y.2.2 _) x.2.2 y.2.2 (by omega) (fun i h h'=>by
   simp only[a7,bJ h,if_true,aD h,aD h',aa,af (show i<9223372036854775807 by omega),fW]
   rw[Be _ _ (by have:x.2.2[i].length<=1048576:=(hr _ (List.getElem_mem h)).1;omega)];simp only[aa]
   by_cases c:x.2.2[i] =y.2.2[i] <;> simp[c]) (by simp only[a7,bm];rfl)
 rw[this]
 by_cases c3:x.2.2=y.2.2 <;> simp[Prod.ext_iff,c1,c2,c3]
abbrev QT:=Int×List Tok×Int
abbrev LH:=List AutT×List QT
theorem Sj (x y:List Tok) (hx:x.length<=1048576):lC x y=some (decide (x=y)):=by
 unfold lC
 exact eqL (f:=iy x y) x y (by omega) (fun i h h'=>by
  simp only[iy,bJ h,if_true,aD h,aD h',aa,dU,af (show i<9223372036854775807 by omega)]
  refine fF ?_;simp only[Bool.and_true,aj,beq_iff_eq];exact Zz) (by simp only[iy,bm];rfl)
theorem Py (x y:List Tok) (hx:x.length<=1048576):cj x y=some (decide (x=y)):=by
 unfold cj
 exact eqL (f:=bV x y) x y (by omega) (fun i h h'=>by
  simp only[bV,bJ h,if_true,aD h,aD h',aa,dU,af (show i<9223372036854775807 by omega)]
  refine fF ?_;simp only[Bool.and_true,aj,beq_iff_eq];exact Zz) (by simp only[bV,bm];rfl)
theorem Sk (x y:List Tok) (hx:x.length<=1048576):lI x y=some (decide (x=y)):=by
 unfold lI
 rw[Py x y hx];rfl
theorem EG (x y:LH) (hx:Data.sm x):fR x y=some (decide (x=y)):=by
 obtain ⟨⟨ha,hA⟩,hq,hQ⟩:=hx
 unfold fR
 by_cases h1:x.1.length=y.1.length
 ·by_cases h2:x.2.length=y.2.length
  ·rw[if_neg (by rw[h1];simp),if_neg (by rw[h2];simp)]
   rw[eqB (f:=dX x y) x.1 y.1 (by omega) h1 (fun i h h'=>by
    simp only[dX,bJ h,if_true,aD h,aD h',aa,dU,Bj x.1[i] y.1[i] (hA _ (List.getElem_mem h)),af (show i<9223372036854775807 by omega)]
    exact fF (by simp)) (by simp only[dX,bm];rfl)]
   rw[eqB (f:=dY x y) x.2 y.2 (by omega) h2 (fun i h h'=>by
    have e:=Sj x.2[i].2.1 y.2[i].2.1 (hQ _ (List.getElem_mem h)).2.1.1
    simp only[dY,bJ h,if_true,aD h,aD h',aa,e,af (show i<9223372036854775807 by omega)]
    generalize x.2[i] =u;generalize y.2[i] =v
    by_cases e1:u.1=v.1 <;> by_cases e2:u.2.1=v.2.1 <;> by_cases e3:u.2.2=v.2.2 <;> simp[Prod.ext_iff,e1,e2,e3]) (by simp only[dY,bm];rfl)]
   by_cases e1:x.1=y.1 <;> by_cases e2:x.2=y.2 <;> simp[Prod.ext_iff,e1,e2]
  ·have:x.2≠y.2:=fun e=>h2 (by rw[e])
   rw[if_neg (by rw[h1];simp),if_pos (by simp;omega)];simp[Prod.ext_iff,this]
 ·have:x.1≠y.1:=fun e=>h1 (by rw[e])
  rw[if_pos (by simp;omega)];simp[Prod.ext_iff,this]
theorem LI (x y:QT) (hx:Data.sm x):gr x y=some (decide (x=y)):=by
 unfold gr
 rw[Sk x.2.1 y.2.1 hx.2.1.1];simp only[aa]
 by_cases h1:x.1=y.1 <;> by_cases h2:x.2.1=y.2.1 <;> by_cases h3:x.2.2=y.2.2 <;> simp[Prod.ext_iff,h1,h2,h3]
theorem EH (x y:LH) (hx:Data.sm x):fX x y=some (decide (x=y)):=by
 obtain ⟨⟨ha,hA⟩,hq,hQ⟩:=hx
 unfold fX
 have e:aZ x.1 y.1 (fun a0 a1=>dK a0 a1)=some (decide (x.1=y.1)):=
  eqL (f:=aN x.1 y.1 _) x.1 y.1 (by omega) (fun i h h'=>by
   simp only[aN,bJ h,if_true,aD h,aD h',aa,dU,af (show i<9223372036854775807 by omega),Bk x.1[i] y.1[i] (hA _ (List.getElem_mem h))]
   exact fF (by simp)) (by simp only[aN,bm];rfl)
 have e':aW x.2 y.2 (fun a0 a1=>gr a0 a1)=some (decide (x.2=y.2)):=
  eqL (f:=aM x.2 y.2 _) x.2 y.2 (by omega) (fun i h h'=>by
   simp only[aM,bJ h,if_true,aD h,aD h',aa,dU,af (show i<9223372036854775807 by omega),LI x.2[i] y.2[i] (hQ _ (List.getElem_mem h))]
   exact fF (by simp)) (by simp only[aM,bm];rfl)
 rw[e,e'];simp only[aa]
 by_cases h1:x.1=y.1 <;> by_cases h2:x.2=y.2 <;> simp[Prod.ext_iff,h1,h2]
theorem th {R S:Type} {f g:S->Option (Out R S)} (Inv:Nat->S->Prop) (h: ∀i s,Inv i s->g s=f s/\ ∀s',f s=some (.nxt s')->Inv (i+1) s'): ∀(k i:Nat) (s:S),Inv i s->ax g k s=ax f k s
 | 0,_,_,_=>rfl
 | k+1,i,s,hI=>by
  obtain ⟨h1,h2⟩:=h i s hI
  rw[ax,ax,h1]
  cases e:f s with
  | none=>rfl
  | some o =>
   cases o with
   | nxt s'=>exact th Inv h k (i+1) s' (h2 s' e)
   | brk s'=>rfl
   | ret r=>rfl
theorem Kc {f g:Int->Option (Out Int Int)} (N:Nat) (hN:N<=1048576) (h: ∀i:Nat,i<N->f (i:Int)=some (.ret (i:Int))\/f (i:Int)=some (.nxt ((i+1:Nat):Int))) (he:f (N:Int)=some (.brk (N:Int))) (hfg: ∀i:Nat,i<=N->g (i:Int)=f (i:Int)) :
  ∃r:Int,aP (ax f aX 0) (fun r=>some r) (fun _=>some (-1))=some r/\aP (ax g aX 0) (fun r=>some r) (fun _=>some (-1))=some r/\(r= -1\/ ∃i:Nat,i<N/\r=(i:Int)):=by
 have hs:ax g aX 0=ax f aX 0:=th (fun i s=>s=(i:Int)/\i<=N) (fun i s ⟨e,hi⟩=>by
  subst e
  refine ⟨hfg i hi,fun s' e=>?_⟩
  by_cases c:i<N
  ·rcases h i c with e2 | e2
   ·rw[e2] at e;cases e
   ·rw[e2] at e;cases e;exact ⟨rfl,c⟩
  ·obtain rfl:i=N:=by omega
   rw[he] at e;cases e) aX 0 0 ⟨rfl,Nat.zero_le _⟩
 rw[hs]
 obtain ⟨o,e,ho⟩:=cT (f:=f) (fun i s=>s=(i:Int)) (fun o=>o= .brk (N:Int)\/ ∃i:Nat,i<N/\o= .ret (i:Int)) N (fun i s hi hs=>by
  subst hs
  by_cases h1:i<N
  ·rcases h i h1 with h2 | h2
   ·exact .inr ⟨_,h2,(fun s' e=>by cases e),.inr ⟨i,h1,rfl⟩⟩
   ·exact .inl ⟨h1,_,h2,rfl⟩
  ·obtain rfl:i=N:=by omega
   exact .inr ⟨_,he,(fun s' e=>by cases e),.inl rfl⟩) (s:=0) rfl (dC _ (by omega))
 rw[e]
 rcases ho with rfl | ⟨i,hi,rfl⟩
 ·exact ⟨-1,rfl,rfl,.inl rfl⟩
 ·exact ⟨i,rfl,rfl,.inr ⟨i,hi,rfl⟩⟩
theorem LJ (l:List AutT) (a:AutT) (hl:l.length<=1048576) (hs: ∀x∈l,Data.sm x) (ha:Data.sm a): ∃r:Int,lY l a=some r/\a8 l (fun a0=>l5 a0 a)=some r/\(r= -1\/ ∃i:Nat,i<l.length/\r=(i:Int)):=by
 unfold lY a8
 have hf: ∀i (h:i<l.length),gW l a (i:Int)=if l[i] =a then some (.ret (i:Int)) else some (.nxt ((i+1:Nat):Int)):=fun i h=>by
  simp only[gW,bJ h,if_true,aD h,aa,dU,Bj l[i] a (hs _ (List.getElem_mem h)),af (show i<9223372036854775807 by omega)]
  by_cases c:l[i] =a <;> simp[c]
 refine Kc l.length hl (fun i h=>?_) (by simp only[gW,bm];rfl) (fun i hi=>?_)
 ·rw[hf i h];by_cases c:l[i] =a <;> simp[c]
 ·by_cases h:i<l.length
  ·rw[hf i h]
   simp only[bQ,l5,bJ h,if_true,aD h,aa,dU,Bk a l[i] ha,af (show i<9223372036854775807 by omega)]
   by_cases c:l[i] =a
   ·simp[c]
   ·have: ¬a=l[i]:=fun e=>c e.symm
    simp[c,this]
  ·obtain rfl:i=l.length:=by omega
   simp only[gW,bQ,bm];rfl
def IN (n i:Nat) (s:Int×List AutT×List QT):Prop:=s.1=(i:Int)/\i<=n/\s.2.2.length=i/\s.2.1.length<=i/\(∀a∈s.2.1,Data.sm a)/\ ∀q∈s.2.2,Data.sm q/\0<=q.2.2/\q.2.2<(s.2.1.length:Int)
theorem Ke {qs:List QT} (hq:Data.sm qs) {i:Nat} {s:Int×List AutT×List QT} (hI:IN qs.length i s):ko qs s=di qs s /\
  ((i<qs.length/\ ∃s',di qs s=some (.nxt s')/\IN qs.length (i+1) s')\/ ∃o,di qs s=some o/\(∀s',o≠ .nxt s')/\(o= .ret (([],[]),false)\/o= .brk s/\i=qs.length)):=by
 obtain ⟨hn,hs⟩:=aH hq
 obtain ⟨s1,A,Q⟩:=s
 obtain ⟨h1,h2,h3,h4,h5,h6⟩:=hI
 simp only at h1 h3 h4 h5 h6
 subst h1
 by_cases hi:i<qs.length
 ·have hqi:=hs _ (List.getElem_mem hi)
  obtain ⟨r,es,ei,hr⟩:=IM (e:=qs[i].2.1) hqi.2.1.1
  obtain ⟨k,ks,ki,hk⟩:=LJ A r.1 (by omega) h5 hr
  have a1:cz 56 A [r.1] =some (A++ [r.1]):=aL (by simp;omega)
  have a2: ∀y,cz 40 Q [y] =some (Q++ [y]):=fun y=>aL (by simp;omega)
  have a3:gz qs[i].2.1=some qs[i].2.1:=by unfold gz;rw[aL (by have:=hqi.2.1.1;simp;omega)];rfl
  have a4:fK qs[i].2.1=some qs[i].2.1:=by unfold fK;rw[aL (by have:=hqi.2.1.1;simp;omega)];rfl
  unfold ko di
  simp only[bJ hi,if_true,aD hi,aa,es,ei,LQ,GZ,dU,ks,ki,a1,a2,a3,a4,af (show i<9223372036854775807 by omega)]
  by_cases c1:r.2=true
  case neg =>
   simp only[c1,Bool.false_eq_true,if_false]
   exact ⟨by first | trivial | rfl,.inr ⟨_,rfl,(fun s' e=>by cases e),.inl rfl⟩⟩
  simp only[c1,if_true]
  by_cases c2:1<=qs[i].1/\qs[i].1<=99
  case neg =>
   simp only[c2,decide_false,Bool.false_eq_true,if_false]
   exact ⟨by first | trivial | rfl,.inr ⟨_,rfl,(fun s' e=>by cases e),.inl rfl⟩⟩
  simp only[c2,decide_true,if_true]
  have fin: ∃s':Int×List AutT×List QT,(∀(y:Option (Out (LH×Bool) (Int×List AutT×List QT))),True)/\(Option.bind (if decide (k<0) then some ((A.length:Int),A++ [r.1],Q) else some (k,A,Q)) fun s10:Int×List AutT×List QT=>(cz 40 s10.2.2 [(qs[i].1,qs[i].2.1,s10.1)]).bind fun z18=>some (.nxt (((i+1:Nat):Int),s10.2.1,z18)):Option (Out (LH×Bool) (Int×List AutT×List QT)))=some (.nxt s')/\IN qs.length (i+1) s':=by
   rcases hk with rfl | ⟨j,hj,rfl⟩
   ·refine ⟨(((i+1:Nat):Int),A++ [r.1],Q++ [(qs[i].1,qs[i].2.1,(A.length:Int))]),fun _=>trivial,?_,rfl,hi,by simp;omega,by simp;omega,fun a ha=>?_,fun q hq'=>?_⟩
    ·simp only[show decide ((-1:Int)<0)=true from rfl,if_true,aa,a2]
    ·simp only[List.mem_append,List.mem_singleton] at ha
     rcases ha with ha | rfl
     ·exact h5 a ha
     ·exact hr
    ·simp only[List.mem_append,List.mem_singleton] at hq'
     simp only[al,List.length_singleton]
     rcases hq' with hq' | rfl
     ·obtain ⟨b1,b2,b3⟩:=h6 q hq'
      exact ⟨b1,b2,by omega⟩
     ·exact ⟨⟨trivial,hqi.2.1,trivial⟩,by simp,by simp;omega⟩
   ·refine ⟨(((i+1:Nat):Int),A,Q++ [(qs[i].1,qs[i].2.1,(j:Int))]),fun _=>trivial,?_,rfl,hi,by simp;omega,by simp only;omega,h5,fun q hq'=>?_⟩
    ·have:decide ((j:Int)<0)=false:=by simp
     simp only[this,Bool.false_eq_true,if_false,aa,a2]
    ·simp only[List.mem_append,List.mem_singleton] at hq'
     rcases hq' with hq' | rfl
     ·exact h6 q hq'
     ·exact ⟨⟨trivial,hqi.2.1,trivial⟩,by simp,by simp;omega⟩
  obtain ⟨s',-,e,hI'⟩:=fin
  by_cases c3:(i:Int)>0
  ·have hp:i - 1<qs.length:=by omega
   have hw:IntKind.i64.wrap ((i:Int) - 1)=((i - 1:Nat):Int):=by rw[pD (by omega)];omega
   simp only[c3,decide_true,if_true,hw,aD hp,aa]
   by_cases c4:qs[i - 1].1≥qs[i].1
   ·simp only[c4,decide_true,if_true]
    exact ⟨by first | trivial | rfl,.inr ⟨_,rfl,(fun s' e=>by cases e),.inl rfl⟩⟩
   ·simp only[c4,decide_false,Bool.false_eq_true,if_false]
    exact ⟨by first | trivial | rfl,.inl ⟨hi,s',e,hI'⟩⟩
  ·simp only[c3,decide_false,Bool.false_eq_true,if_false]
   exact ⟨by first | trivial | rfl,.inl ⟨hi,s',e,hI'⟩⟩
 ·obtain rfl:i=qs.length:=by omega
  unfold ko di
  simp only[bm,Bool.false_eq_true,if_false]
  exact ⟨by first | trivial | rfl,.inr ⟨_,rfl,(fun s' e=>by cases e),.inr (by first | exact ⟨rfl,rfl⟩ | exact ⟨trivial,rfl⟩ | exact ⟨rfl,trivial⟩ | simp)⟩⟩
def RegOk (r:LH):Prop:=Data.sm r/\ ∀q∈r.2,0<=q.2.2/\q.2.2<(r.1.length:Int)
theorem Sl {qs:List QT} (hq:Data.sm qs): ∃r:LH,∃b:Bool,oj qs=(if (qs.length:Int)>4 then some (([],[]),false) else some (r,b))/\sN qs=some (r,b&&decide ((qs.length:Int)<=4))/\RegOk r:=by
 have hn:=(aH hq).1
 have h0:IN qs.length 0 (0,[],[]):=⟨rfl,Nat.zero_le _,rfl,aC _,fun _ h=>(by cases h),fun _ h=>(by cases h)⟩
 have hs:ax (ko qs) aX (0,[],[])=ax (di qs) aX (0,[],[]):=th (IN qs.length) (fun i s hI=>by
  obtain ⟨e,h⟩:=Ke hq hI
  refine ⟨e,fun s' e'=>?_⟩
  rcases h with ⟨_,s2,e2,hI2⟩ | ⟨o,e2,hne,-⟩
  ·rw[e2] at e';cases e';exact hI2
  ·rw[e2] at e';cases e';exact absurd rfl (hne s')) aX 0 _ h0
 obtain ⟨o,e,ho⟩:=cT (f:=di qs) (IN qs.length) (fun o=>o= .ret (([],[]),false)\/ ∃A Q,o= .brk ((qs.length:Int),A,Q)/\IN qs.length qs.length ((qs.length:Int),A,Q)) qs.length (fun i s hi hI=>by
  rcases (Ke hq hI).2 with h | ⟨o,e,hne,h⟩
  ·exact .inl h
  ·refine .inr ⟨o,e,hne,?_⟩
   rcases h with h | ⟨h,rfl⟩
   ·exact .inl h
   ·obtain ⟨s1,A,Q⟩:=s
    obtain ⟨rfl,-⟩:=id hI
    exact .inr ⟨A,Q,h,hI⟩) h0 (dC _ (by omega))
 unfold oj sN
 rw[hs,e]
 rcases ho with rfl | ⟨A,Q,rfl,-,-,h3,h4,h5,h6⟩
 ·refine ⟨([],[]),false,?_,rfl,⟨⟨Nat.zero_le _,fun _ h=>(by cases h)⟩,Nat.zero_le _,fun _ h=>(by cases h)⟩,fun _ h=>(by cases h)⟩
  by_cases c:(qs.length:Int)>4 <;> simp[c,aP]
 ·simp only at h3 h4 h5 h6
  refine ⟨(A,Q),true,?_,by simp[aP],⟨⟨show A.length<=1048576 by omega,h5⟩,show Q.length<=1048576 by omega,fun q h=>(h6 q h).1⟩,fun q h=>(h6 q h).2⟩
  by_cases c:(qs.length:Int)>4 <;> simp[c,aP]
theorem LK {r:LH} (hr:Data.sm r): ∃b,fS r=some b/\fY r=some b/\(b=true->RegOk r):=by
 obtain ⟨x,b,e1,e2,hx⟩:=Sl hr.2
 unfold fS fY
 rw[e1,e2]
 by_cases c:(r.2.length:Int)>4
 ·have c': ¬(r.2.length:Int)<=4:=by omega
  exact ⟨false,by simp[c],by simp[c'],fun e=>by cases e⟩
 ·have c':(r.2.length:Int)<=4:=by omega
  cases b with
  | false=>exact ⟨false,by simp[c],by simp,fun e=>by cases e⟩
  | true =>
   simp only[c,if_false,aa,if_true,c',decide_true,Bool.and_true,dU,EG x r hx.1,EH x r hx.1]
   exact ⟨_,rfl,rfl,fun e=>by rw[<-of_decide_eq_true e];exact hx⟩
end D
set_option synthInstance.maxSize 20000
set_option synthInstance.maxHeartbeats 2000000
namespace D
open Go.RowKit
abbrev Sn:=Int×(List GrT)
abbrev Kf:=Int×Int×Int
theorem V1 (g:GrT) (hg:Data.sm g):pa g=some g:=by
 have h1:=(aH hg.1).1
 have h2:=(aH hg.2).1
 unfold pa
 rw[aL (by simp;omega)];simp only[aa,List.nil_append]
 rw[aL (by simp;omega)];rfl
theorem V2 (g:GrT) (hg:Data.sm g):kz g=some g:=by
 have h1:=(aH hg.1).1
 have h2:=(aH hg.2).1
 unfold kz l6
 rw[aL (by simp;omega)];simp only[aa,List.nil_append]
 rw[aL (by simp;omega)];rfl
theorem CX {g:GrT} (hg:Data.sm g): ∃b,cw g=some b:=by
 obtain ⟨b,e,_⟩:=RW g (aH hg.1).1 (aH hg.2).1
 exact ⟨b,e⟩
def okG (h:Sn) (g:GrT):Prop:=cw g=some true/\g.1=(nth h.2 0).1
instance (h g):Decidable (okG h g):=by unfold okG;infer_instance
theorem Pz (h:Sn) (hh:Data.sm h): ∃b,m_s_IsValidHistory h=some b/\m_i_IsValidHistory h=some b/\(b=true->(1<=h.2.length/\h.2.length<=8)/\1<=h.1/\h.1<=1000 - (h.2.length:Int)):=by
 obtain ⟨hl,hs⟩:=aH hh.2
 have ew:IntKind.i64.wrap ((IntKind.i64.wrap (999 - (h.2.length:Int)))+1)=1000 - (h.2.length:Int):=by
  rw[fa (n:=999 - (h.2.length:Int)) (by omega) (by omega),fa (by omega) (by omega)];omega
 have ks:=scan (f:=eK h) h.2 (okG h) false (by omega) (fun i hi=>by
  have hg:=hs _ (ct (xs:=h.2) (i:=(i:Int)) (by omega) (by omega))
  obtain ⟨b,e⟩:=CX hg
  obtain ⟨r,er,hr⟩:=EC (nth h.2 (i:Int)).1 (nth h.2 0).1 (aH hg.1).1
  have e':gp ((nth h.2 (i:Int)).1,(nth h.2 (i:Int)).2)=some b:=by rw[O4];exact e
  have hk:okG h (nth h.2 (i:Int))↔b=true/\(nth h.2 (i:Int)).1=(nth h.2 0).1:=by unfold okG;rw[e];simp
  unfold eK
  rw[if_pos (by simp;omega),aF (by omega) (by omega)];simp only[aa]
  rw[e',aF (xs:=h.2) (i:=0) (by omega) (by omega)];simp only[aa]
  rw[er,af (by omega)];simp only[aa]
  cases b with
  | false=>rw[if_neg (by decide),if_neg (fun c=>by cases (hk.1 c).1)]
  | true =>
   rw[if_pos rfl]
   by_cases c:r=0
   ·rw[if_neg (by simp[c]),if_pos (hk.2 ⟨rfl,hr.1 c⟩)]
   ·rw[if_pos (by simpa using c),if_neg (fun k=>c (hr.2 (hk.1 k).2))]) (by unfold eK;simp)
 have ki:=scan (f:=eM h) h.2 (okG h) false (by omega) (fun i hi=>by
  have hg:=hs _ (ct (xs:=h.2) (i:=(i:Int)) (by omega) (by omega))
  obtain ⟨b,e⟩:=CX hg
  have er:=Be (nth h.2 (i:Int)).1 (nth h.2 0).1 (by have:=(aH hg.1).1;omega)
  have e':cw ((nth h.2 (i:Int)).1,(nth h.2 (i:Int)).2)=some b:=e
  have hk:okG h (nth h.2 (i:Int))↔b=true/\(nth h.2 (i:Int)).1=(nth h.2 0).1:=by unfold okG;rw[e];simp
  unfold eM
  rw[if_pos (by simp;omega),aF (by omega) (by omega)];simp only[aa]
  rw[e',aF (xs:=h.2) (i:=0) (by omega) (by omega)];simp only[aa]
  rw[er,af (by omega)];simp only[aa]
  cases b with
  | false=>rw[if_neg (by decide),if_neg (fun c=>by cases (hk.1 c).1)]
  | true =>
   rw[if_pos rfl]
   by_cases c:(nth h.2 (i:Int)).1=(nth h.2 0).1
   ·rw[if_pos (decide_eq_true c),if_pos (hk.2 ⟨rfl,c⟩)]
   ·rw[if_neg (by simpa using c),if_neg (fun k=>c (hk.1 k).2)]) (by unfold eM;simp)
 unfold m_s_IsValidHistory m_i_IsValidHistory
 rw[LQ,LQ,GZ,GZ,ew];simp only[aa]
 by_cases c1:(1:Int)<=(h.2.length:Int)/\(h.2.length:Int)<=8
 ·by_cases c2:1<=h.1/\h.1<=1000 - (h.2.length:Int)
  ·rw[decide_eq_true c1,decide_eq_true c2];simp only[if_true]
   rcases ks with ⟨es,k1⟩ | ⟨es,k1⟩ <;> rcases ki with ⟨ei,k2⟩ | ⟨ei,k2⟩
   ·rw[aw es,aw ei]
    exact ⟨true,rfl,rfl,fun _=>⟨by omega,c2⟩⟩
   ·exact absurd k1 k2
   ·exact absurd k2 k1
   ·rw[cd es,cd ei]
    exact ⟨false,rfl,rfl,fun c=>by cases c⟩
  ·rw[decide_eq_true c1,decide_eq_false c2];simp only[if_true,Bool.false_eq_true,if_false]
   rcases ks with ⟨es,k1⟩ | ⟨es,k1⟩
   ·rw[aw es];exact ⟨false,rfl,rfl,fun c=>by cases c⟩
   ·rw[cd es];exact ⟨false,rfl,rfl,fun c=>by cases c⟩
 ·rw[decide_eq_false c1];simp only[Bool.false_eq_true,if_false]
  rcases ks with ⟨es,k1⟩ | ⟨es,k1⟩
  ·rw[aw es];exact ⟨false,rfl,rfl,fun c=>by cases c⟩
  ·rw[cd es];exact ⟨false,rfl,rfl,fun c=>by cases c⟩
def latV (h:Sn):Int:=h.1+(h.2.length:Int) - 1
theorem PA {h:Sn} (hs:m_s_IsValidHistory h=some true) (hi:m_i_IsValidHistory h=some true) (k:(1<=h.2.length/\h.2.length<=8)/\1<=h.1/\h.1<=1000 - (h.2.length:Int)):cA h=some (latV h)/\iD h=some (latV h):=by
 unfold cA iD latV
 have hs:m_s_IsValidHistory (h.1,h.2)=_:=hs
 have hi:m_i_IsValidHistory (h.1,h.2)=_:=hi
 rw[hs,hi];simp only[aa,if_true]
 rw[fa (n:=h.1+(h.2.length:Int)) (by omega) (by omega),fa (by omega) (by omega)]
 exact ⟨rfl,rfl⟩
end D
set_option synthInstance.maxSize 20000
set_option synthInstance.maxHeartbeats 2000000
namespace D
open Go.RowKit
theorem V3 (a:AutT) (ha:Data.sm a):qb a=some a:=by
 obtain ⟨-,⟨hb,-⟩,hn,hr⟩:=ha
 unfold qb
 rw[aL (by simp;omega)];simp only[aa,List.nil_append]
 have:=bq (f:=ja a) (fun i=>((i:Int),a.1,a.2.1,a.2.2.take i)) a.2.2.length (fun i hi=>by
  unfold ja
  have h1:cz 8 ([] :List Int) a.2.2[i] =some a.2.2[i]:=by rw[aL (by have:a.2.2[i].length<=1048576:=(hr _ (List.getElem_mem hi)).1;simp;omega)];rfl
  simp only[bJ hi,if_true,aD hi,aa,h1,af (show i<9223372036854775807 by omega)]
  rw[aL (by simp;omega)]
  simp only[aa]
  rw[List.take_succ_eq_append_getElem hi]) (by
  unfold ja
  simp only[bm,Bool.false_eq_true,if_false]) (dC _ (by omega))
 have e:ax (ja a) aX (0,a.1,a.2.1,[])=_:=this
 rw[e]
 simp only[aP,List.take_length]
theorem V4 (a:AutT) (ha:Data.sm a):iG a=some a:=by
 obtain ⟨-,⟨hb,-⟩,hn,hr⟩:=ha
 unfold iG
 rw[aL (by simp;omega)];simp only[aa,List.nil_append]
 have:=bq (f:=dB a) (fun i=>((i:Int),a.1,a.2.1,a.2.2.take i)) a.2.2.length (fun i hi=>by
  unfold dB l6
  have h1:cz 8 ([] :List Int) a.2.2[i] =some a.2.2[i]:=by rw[aL (by have:a.2.2[i].length<=1048576:=(hr _ (List.getElem_mem hi)).1;simp;omega)];rfl
  simp only[bJ hi,if_true,aD hi,aa,h1,af (show i<9223372036854775807 by omega)]
  rw[aL (by simp;omega)]
  simp only[aa]
  rw[List.take_succ_eq_append_getElem hi]) (by
  unfold dB
  simp only[bm,Bool.false_eq_true,if_false]) (dC _ (by omega))
 have e:ax (dB a) aX (0,a.1,a.2.1,[])=_:=this
 rw[e]
 simp only[aP,List.take_length]
end D
set_option synthInstance.maxSize 20000
set_option synthInstance.maxHeartbeats 2000000
namespace D
open Go.RowKit
theorem GU (r:LH) (id:Int) (hl:r.2.length<=1048576): ∃k:Int,iz r id=some k/\iE r id=some k/\(k= -1\/ ∃i:Nat,i<r.2.length/\k=(i:Int)):=by
 unfold iz iE bT
 have hf: ∀i (h:i<r.2.length),eF r id (i:Int)=if r.2[i].1=id then some (.ret (i:Int)) else some (.nxt ((i+1:Nat):Int)):=fun i h=>by
  simp only[eF,bJ h,if_true,aD h,aa,af (show i<9223372036854775807 by omega)]
  by_cases c:r.2[i].1=id <;> simp[c]
 obtain ⟨k,e1,e2,h⟩:=Kc (f:=eF r id) (g:=bg r.2 fun a0=>kp a0 id) r.2.length hl (fun i h=>by
  rw[hf i h];by_cases c:r.2[i].1=id <;> simp[c]) (by simp only[eF,bm];rfl) (fun i hi=>by
  by_cases h:i<r.2.length
  ·rw[hf i h]
   simp only[bg,kp,bJ h,if_true,aD h,aa,af (show i<9223372036854775807 by omega)]
   by_cases c:r.2[i].1=id <;> simp[c]
  ·obtain rfl:i=r.2.length:=by omega
   simp only[eF,bg,bm];rfl)
 refine ⟨k,e1,?_,h⟩
 rw[e2];rfl
end D
set_option synthInstance.maxSize 20000
set_option synthInstance.maxHeartbeats 2000000
namespace D
open Go.RowKit
abbrev EngT:=Sn×LH×List Kf×ByteArray
theorem Kg {h:Sn} {r:LH} {ss:List Kf} {lg:ByteArray} {v:Int} (hs:cA h=some v) (hr:r.2.length<=1048576) (hn:ss.length<=1048576) {i:Nat} (h1:i<ss.length) :
  cg (h,r,ss,lg) v (i:Int)=cN (h,r,ss,lg) (i:Int)/\(cN (h,r,ss,lg) (i:Int)=some (.nxt ((i+1:Nat):Int))\/cN (h,r,ss,lg) (i:Int)=some (.ret false)):=by
 obtain ⟨k,k1,k2,-⟩:=GU r ss[i].2.1 hr
 have hw:IntKind.i64.wrap ((i:Int)+1)=((i+1:Nat):Int):=af (by omega)
 unfold cg cN
 simp only[dU,bJ h1,if_true,aD h1,aa,LQ,GZ,k1,k2,hs,hw]
 by_cases c:decide ((i:Int)>0)=true
 ·have g:aQ ss (IntKind.i64.wrap ((i:Int) - 1))=some (nth ss ((i:Int) - 1)):=by
   have:(i:Int)>0:=of_decide_eq_true c
   rw[pD (by omega),aF (by omega) (by omega)]
  simp only[if_pos c,g,aa]
  refine ⟨trivial,?_⟩
  repeat' split
  all_goals first | exact .inr rfl | exact .inl rfl
 ·simp only[if_neg c]
  refine ⟨trivial,?_⟩
  repeat' split
  all_goals first | exact .inr rfl | exact .inl rfl
theorem So {h:Sn} {r:LH} {ss:List Kf} {lg:ByteArray} {v:Int} (hs:cA h=some v) (hr:r.2.length<=1048576) (hn:ss.length<=1048576): ∃o,ax (cN (h,r,ss,lg)) aX 0=some o/\ax (cg (h,r,ss,lg) v) aX 0=some o/\(o= .ret false\/ ∃s,o= .brk s):=by
 have hend:cN (h,r,ss,lg) (ss.length:Int)=some (.brk (ss.length:Int)):=by
  unfold cN
  simp only[]
  rw[bm];rfl
 have hend2:cg (h,r,ss,lg) v (ss.length:Int)=some (.brk (ss.length:Int)):=by
  unfold cg
  simp only[]
  rw[bm];rfl
 obtain ⟨o,e,hQ⟩:=cT (f:=cN (h,r,ss,lg)) (fun i s=>s=(i:Int)) (fun o=>o= .ret false\/ ∃s,o= .brk s) ss.length (fun i s hi hI=>by
  subst hI
  by_cases h1:i<ss.length
  ·rcases (Kg (lg:=lg) hs hr hn h1).2 with k | k
   ·exact .inl ⟨h1,_,k,rfl⟩
   ·exact .inr ⟨_,k,fun s' h=>(by simp at h),.inl rfl⟩
  ·obtain rfl:i=ss.length:=by omega
   exact .inr ⟨_,hend,fun s' h=>(by simp at h),.inr ⟨_,rfl⟩⟩) (s:=(0:Int)) rfl (dC _ (by omega))
 refine ⟨o,e,?_,hQ⟩
 rw[<-e]
 refine th (f:=cN (h,r,ss,lg)) (g:=cg (h,r,ss,lg) v) (fun i s=>s=(i:Int)/\i<=ss.length) (fun i s hI=>?_) aX 0 0 ⟨rfl,Nat.zero_le _⟩
 obtain ⟨rfl,hi⟩:=hI
 by_cases h1:i<ss.length
 ·obtain ⟨a,b⟩:=Kg (lg:=lg) hs hr hn h1
  refine ⟨a,fun s' hs'=>?_⟩
  rcases b with b | b
  ·rw[b] at hs'
   obtain rfl:=ae hs' |> Out.nxt.inj
   exact ⟨rfl,h1⟩
  ·rw[b] at hs';simp at hs'
 ·obtain rfl:i=ss.length:=by omega
  exact ⟨by rw[hend,hend2],fun s' hs'=>by rw[hend] at hs';simp at hs'⟩
structure EngOk (e:EngT):Prop where
 hs:m_s_IsValidHistory e.1=some true
 hi:m_i_IsValidHistory e.1=some true
 hb:(1<=e.1.2.length/\e.1.2.length<=8)/\1<=e.1.1/\e.1.1<=1000 - (e.1.2.length:Int)
 reg:RegOk e.2.1
 sub:e.2.2.1.length<=4
 log:e.2.2.2.size<=4000
 sc: ∃(r:List Int) (q:List (List ChT)) (n:Nat),m_s_ScanLog e.2.2.2=some (r,q,(n:Int))/\m_i_ScanLog e.2.2.2=some (r,q,(n:Int))/\r.length<=4000/\ScOk r q/\totL r q r.length<=4000/\(r.length=0\/nth r ((r.length:Int) - 1)=latV e.1)
theorem Sp (e:EngT) (he:Data.sm e): ∃b,iA e=some b/\iF e=some b/\(b=true->EngOk e):=by
 obtain ⟨h,r,ss,lg⟩:=e
 obtain ⟨sh,sr,ssb,slg⟩:=he
 obtain ⟨b1,e1,e2,k1⟩:=Pz h sh
 obtain ⟨b2,f1,f2,k2⟩:=LK sr
 have slg:lg.size<=1048576:=slg
 obtain ⟨l,rfl⟩:=Xs lg
 have hlz:(mkB l).size=l.length:=bP l
 have hl:l.length<=1048576:=by rw[<-hlz];exact slg
 unfold iA iF uk wS
 simp only[dU,e1,e2,f1,f2,aa,hlz]
 cases b1 with
 | false=>exact ⟨false,rfl,rfl,fun c=>by cases c⟩
 | true =>
  cases b2 with
  | false=>exact ⟨false,rfl,rfl,fun c=>by cases c⟩
  | true =>
   obtain ⟨l1,l2⟩:=PA e1 e2 (k1 rfl)
   obtain ⟨o,o1,o2,ho⟩:=So (h:=h) (r:=r) (ss:=ss) (lg:=mkB l) l1 (aH sr.2).1 (aH ssb).1
   obtain ⟨vs,bs,n,g1,g2,g3,g4,g5,g6⟩:=GM l (by omega)
   simp only[if_true,l1,l2,g1,g2,aa,o1,o2]
   by_cases c1:(ss.length:Int)<=4
   ·rw[if_neg (show¬decide ((ss.length:Int)>4)=true by rw[decide_eq_true_eq];omega),decide_eq_true c1]
    by_cases c2:(l.length:Int)<=4000
    ·rw[if_neg (show¬decide ((l.length:Int)>4000)=true by rw[decide_eq_true_eq];omega)]
     rcases ho with rfl | ⟨s,rfl⟩
     ·exact ⟨false,rfl,rfl,fun c=>by cases c⟩
     ·simp only[aP,if_true,aa]
      by_cases c3:((n:Int)==(l.length:Int))=true
      ·simp only[if_pos c3,if_pos (decide_eq_true c2)]
       by_cases c4:((vs.length:Int)==0)=true
       ·simp only[if_pos c4,aa]
        exact ⟨true,rfl,rfl,fun _=>⟨e1,e2,k1 rfl,k2 rfl,by show ss.length<=4;omega,by show (mkB l).size<=4000;omega,vs,bs,n,g1,g2,g4,g5,by omega,.inl (by have:=eq_of_beq c4;omega)⟩⟩
       ·have hp:0<vs.length:=by
         rcases Nat.eq_zero_or_pos vs.length with q | q
         ·exact absurd (by rw[q];rfl) c4
         ·exact q
        simp only[if_neg c4,pD (show vs.length<=9223372036854775807 by omega),aF (xs:=vs) (i:=(vs.length:Int) - 1) (by omega) (by omega),aa]
        refine ⟨_,rfl,rfl,fun c=>⟨e1,e2,k1 rfl,k2 rfl,by show ss.length<=4;omega,by show (mkB l).size<=4000;omega,vs,bs,n,g1,g2,g4,g5,by omega,.inr (eq_of_beq c)⟩⟩
      ·simp only[if_neg c3,aa]
       exact ⟨false,rfl,rfl,fun c=>by cases c⟩
    ·rw[if_pos (decide_eq_true (show (l.length:Int)>4000 by omega))]
     rcases ho with rfl | ⟨s,rfl⟩
     ·exact ⟨false,rfl,rfl,fun c=>by cases c⟩
     ·simp only[aP,if_true,aa]
      by_cases c3:((n:Int)==(l.length:Int))=true
      ·simp only[if_pos c3,if_neg (show¬decide ((l.length:Int)<=4000)=true by rw[decide_eq_true_eq];exact c2),aa]
       exact ⟨false,rfl,rfl,fun c=>by cases c⟩
      ·simp only[if_neg c3,aa]
       exact ⟨false,rfl,rfl,fun c=>by cases c⟩
   ·rw[if_pos (decide_eq_true (show (ss.length:Int)>4 by omega)),decide_eq_false c1]
    rcases ho with rfl | ⟨s,rfl⟩
    ·exact ⟨false,rfl,rfl,fun c=>by cases c⟩
    ·exact ⟨false,rfl,rfl,fun c=>by cases c⟩
end D
end Go.Proofs.YtilionjghdjbdaaGreatDoor
