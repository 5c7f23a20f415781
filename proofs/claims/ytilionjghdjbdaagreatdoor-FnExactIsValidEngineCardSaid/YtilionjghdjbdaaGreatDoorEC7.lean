/- FnExactIsValidEngine: for every input the law returns true and changes nothing that was there. Part 8 of 9. -/
import Derived.Test.YtilionjghdjbdaaGreatDoorEC6
set_option linter.unusedVariables false
set_option linter.unusedSimpArgs false
set_option linter.unnecessarySimpa false
set_option linter.unusedSectionVars false
set_option maxRecDepth 1000000
namespace Go.Proofs.YtilionjghdjbdaaGreatDoor
namespace D
open Go.RowKit
theorem Nm {e:EgT} (h:edOk e) {c:UInt8} (h1:c.toNat≠45) (h2:c.toNat<48):c∉pf e:=by
 obtain ⟨-,-,-,h4⟩:=id h
 rw[Ed h]
 intro hm
 rcases List.mem_append.1 hm with hm | hm
 ·exact OI h1 (.inl h2) hm
 ·have e1:(UInt8.ofNat (48+e.2.1.toNat)).toNat=48+e.2.1.toNat:=by have:=h.2.1;simp;omega
  have e2:(UInt8.ofNat (97+e.2.2.2.toNat)).toNat=97+e.2.2.2.toNat:=by simp;omega
  have e3:(UInt8.ofNat (48+e.2.2.1.toNat)).toNat=48+e.2.2.1.toNat:=by have:=h.2.2.1;simp;omega
  have e4:(58:UInt8).toNat=58:=rfl
  simp only[List.mem_cons,List.not_mem_nil,or_false] at hm
  rcases hm with hm | hm | hm | hm <;> (have:=congrArg UInt8.toNat hm;omega)
theorem FG {c:ChT} (h:edOk c.2) {b:UInt8} (h1:b.toNat≠45) (h2:b.toNat<48) (h3:b.toNat≠43):b∉l5 c:=by
 unfold l5
 intro hm
 rcases List.mem_cons.1 hm with hm | hm
 ·have:=congrArg UInt8.toNat hm
  split at this
  ·exact h3 this
  ·exact h1 this
 ·exact Nm h h1 h2 hm
theorem uq {c:UInt8} : ∀ {r:List (List UInt8)} {x:List UInt8},c∉x→(∀y∈r,c∉y)→l6 c [] (x++Lib.joinTail [c] r)=x::r
 | [],x,hx,_=>by
  have:Lib.joinTail [c] [] = []:=by simp[Lib.joinTail]
  rw[this,List.append_nil,k8 hx];rfl
 | y::r,x,hx,hr=>by
  have:Lib.joinTail [c] (y::r)=c::(y++Lib.joinTail [c] r):=by simp[Lib.joinTail]
  rw[this,nF hx,uq (hr y (by simp)) fun z hz=>hr z (List.mem_cons_of_mem _ hz)];rfl
theorem Kl {l:List ChT} (h:vo l) (h0:l≠ []):l6 32 [] (btx l)=l.map l5:=by
 cases l with
 | nil=>exact absurd rfl h0
 | cons c r =>
  unfold btx
  rw[List.map_cons,Lib.join_cons]
  refine uq (FG (h c (by simp)) (by decide) (by decide) (by decide)) fun y hy=>?_
  obtain ⟨d,hd,rfl⟩:=List.mem_map.1 hy
  exact FG (h d (List.mem_cons_of_mem _ hd)) (by decide) (by decide) (by decide)
theorem Km:btx [] = []:=by simp[btx,Lib.join_nil]
theorem OL {l:List ChT} (h0:l≠ []):btx l≠ []:=by
 cases l with
 | nil=>exact absurd rfl h0
 | cons c r=>unfold btx;rw[List.map_cons,Lib.join_cons];simp[l5]
def Tj (s:List UInt8) (r:(List ChT)×Bool):Prop:=r=([],false)∨r.2=true∧r.1.length≤6∧vo r.1∧s=btx r.1
theorem Kn {p:List UInt8} (h:1≤p.length):oe (mkB p) 1 (p.length:Int)=some (mkB (p.drop 1)):=by
 have:=slB (l:=p) (a:=1) (b:=p.length) h (Nat.le_refl _)
 rw[List.take_length] at this
 exact this
theorem ph (p:List UInt8):(mkB p==(⟨#[]⟩:ByteArray))=decide (p= []):=by
 by_cases h:p= []
 ·subst h;rfl
 ·rw[decide_eq_false h,beq_eq_false_iff_ne]
  intro k
  exact h (tq (b:=[]) k)
open Classical in
theorem OM {f:List ChT→Option ByteArray} (hf: ∀l,f l=some (if l.length≤6∧vo l then mkB (btx l) else mkB [])) {b:List ChT} {s:List UInt8} (h:s≠ []): ∃r:(List ChT)×Bool,((f b).bind fun r16=>if r16 !=mkB s then (some (([] :List ChT),false)) else (some (b,true)):Option ((List ChT)×Bool))=some r∧Tj s r:=by
 rw[hf]
 simp only[Option.bind_some]
 by_cases k:b.length≤6∧vo b
 ·rw[if_pos k]
  by_cases c:mkB (btx b)=mkB s
  ·rw[if_neg (by simp[c])];exact ⟨_,rfl,.inr ⟨rfl,k.1,k.2,(tq c).symm⟩⟩
  ·rw[if_pos (by simpa using c)];exact ⟨_,rfl,.inl rfl⟩
 ·rw[if_neg k,if_pos (by
   rw[bne_iff_ne]
   exact fun c=>h (tq c).symm)]
  exact ⟨_,rfl,.inl rfl⟩
theorem U2 (l:List UInt8) (hl:l.length≤1000000): ∃r,cO (mkB l)=some r∧(l= [] ∨Tj l r):=by
 unfold cO
 by_cases h0:l= []
 ·rw[ph,if_pos (decide_eq_true h0)];exact ⟨_,rfl,.inl h0⟩
 rw[ph,if_neg (by simpa using h0)]
 have ec:fA (mkB l) 32=some ((l6 32 [] l).map mkB):=se l 32 hl
 rw[ec];simp only[Option.bind_some]
 obtain ⟨o,e,hQ⟩:=cq (f:=bL ((l6 32 [] l).map mkB)) (fun i s=> ∃b:List ChT,s=((i:Int),b)∧b.length=i) (fun o=>o= .ret (([] :List ChT),false)∨ ∃s,o= .brk s) 7 (fun i s hi hI=>by
  obtain ⟨b,rfl,hb⟩:=hI
  unfold bL
  simp only[]
  by_cases h1:i<((l6 32 [] l).map mkB).length
  ·rw[bp h1,if_pos rfl]
   by_cases h7:i≤6
   ·rw[if_pos (decide_eq_true (by omega)),al h1]
    simp only[Option.bind_some]
    rw[List.length_map] at h1
    have hp:=pg 32 l [] _ (List.getElem_mem h1)
    rw[List.getElem_map]
    generalize (l6 32 [] l)[i] =p at hp⊢
    rw[List.length_nil] at hp
    rw[bc]
    by_cases h2:p.length<2
    ·rw[if_pos (decide_eq_true (by omega))]
     exact .inr ⟨_,rfl,fun s' h=>(by simp at h),.inl rfl⟩
    ·rw[if_neg (by simp;omega),Kn (by omega)]
     simp only[Option.bind_some]
     obtain ⟨r,er,-,-⟩:=Kk (p.drop 1) (by rw[List.length_drop];omega)
     rw[er]
     simp only[Option.bind_some]
     have a0:gG (mkB p) 0=some ((p[0].toNat:Nat):Int):=atB (l:=p) (i:=0) (by omega)
     by_cases h3:r.2=true
     ·rw[if_pos h3,a0]
      simp only[Option.bind_some]
      have hx: ∀z:ChT,cN 40 b [z] =some (b++ [z]):=fun z=>az (by simp only[List.length_cons,List.length_nil];omega)
      rw[hx]
      simp only[Option.bind_some]
      exact .inl ⟨by omega,_,rfl,_,by rw[ae (by omega)],by simp;omega⟩
     ·rw[if_neg h3]
      exact .inr ⟨_,rfl,fun s' h=>(by simp at h),.inl rfl⟩
   ·rw[if_neg (by simp;omega)]
    exact .inr ⟨_,rfl,fun s' h=>(by simp at h),.inr ⟨_,rfl⟩⟩
  ·rw[if_neg (by simp only[decide_eq_true_eq];omega)]
   exact .inr ⟨_,rfl,fun s' h=>(by simp at h),.inr ⟨_,rfl⟩⟩) (s:=(0,([] :List ChT))) ⟨[],rfl,rfl⟩ (fH _ (by omega))
 rcases hQ with rfl | ⟨s,rfl⟩
 ·rw[bR e];exact ⟨_,rfl,.inr (.inl rfl)⟩
 ·rw[aj e]
  obtain ⟨r,er,k⟩:=OM (f:=bX) (fun l=>(pQ l).1) (b:=s.2) h0
  exact ⟨r,er,.inr k⟩
theorem U3 (l:List UInt8) (hl:l.length≤1000000): ∃r,cP (mkB l)=some r∧(l= [] ∨Tj l r):=by
 unfold cP
 by_cases h0:l= []
 ·rw[ph,if_pos (decide_eq_true h0)];exact ⟨_,rfl,.inl h0⟩
 rw[ph,if_neg (by simpa using h0)]
 have ec:bP (mkB l) (⟨#[32]⟩)=some ((l6 32 [] l).map mkB):=AJ l 32 hl
 rw[ec];simp only[Option.bind_some]
 have hn:=AF 32 l []
 obtain ⟨o,e,hQ⟩:=cq (f:=bQ ((l6 32 [] l).map mkB)) (fun i s=> ∃b:List ChT,s=((i:Int),b)∧b.length=i) (fun o=>o= .ret (([] :List ChT),false)∨ ∃s,o= .brk s) (l6 32 [] l).length (fun i s hi hI=>by
  obtain ⟨b,rfl,hb⟩:=hI
  unfold bQ
  simp only[]
  by_cases h1:i<((l6 32 [] l).map mkB).length
  ·rw[bp h1,if_pos rfl,al h1]
   simp only[Option.bind_some]
   rw[List.length_map] at h1
   have hp:=pg 32 l [] _ (List.getElem_mem h1)
   rw[List.getElem_map]
   generalize (l6 32 [] l)[i] =p at hp⊢
   rw[List.length_nil] at hp
   rw[ph,bc]
   by_cases h2:p= []
   ·rw[if_pos (decide_eq_true h2)]
    exact .inr ⟨_,rfl,fun s' h=>(by simp at h),.inl rfl⟩
   ·have h2':1≤p.length:=List.length_pos_iff.2 h2
    rw[if_neg (by simpa using h2),Kn h2']
    simp only[Option.bind_some]
    obtain ⟨r,-,er,-⟩:=Kk (p.drop 1) (by rw[List.length_drop];omega)
    rw[er]
    simp only[Option.bind_some]
    have a0:gG (mkB p) 0=some ((p[0].toNat:Nat):Int):=atB (l:=p) (i:=0) (by omega)
    by_cases h3:r.2=true
    ·rw[if_pos h3,a0]
     simp only[Option.bind_some]
     have hx: ∀z:ChT,cN 40 b [z] =some (b++ [z]):=fun z=>az (by simp only[List.length_cons,List.length_nil];omega)
     rw[hx]
     simp only[Option.bind_some]
     exact .inl ⟨by omega,_,rfl,_,by rw[ae (by omega)],by simp;omega⟩
    ·rw[if_neg h3]
     exact .inr ⟨_,rfl,fun s' h=>(by simp at h),.inl rfl⟩
  ·rw[if_neg (by simp only[decide_eq_true_eq];omega)]
   exact .inr ⟨_,rfl,fun s' h=>(by simp at h),.inr ⟨_,rfl⟩⟩) (s:=(0,([] :List ChT))) ⟨[],rfl,rfl⟩ (fH _ (by omega))
 rcases hQ with rfl | ⟨s,rfl⟩
 ·rw[bR e];exact ⟨_,rfl,.inr (.inl rfl)⟩
 ·rw[aj e]
  obtain ⟨r,er,k⟩:=OM (f:=cW) (fun l=>(pQ l).2) (b:=s.2) h0
  exact ⟨r,er,.inr k⟩
theorem Ko {L:List ChT} (h:vo L) (h6:L.length≤6) {i:Nat} (hi:i<L.length):bL ((L.map l5).map mkB) ((i:Int),L.take i)=some (.nxt (((i+1:Nat):Int),L.take (i+1)))∧bQ ((L.map l5).map mkB) ((i:Int),L.take i)=some (.nxt (((i+1:Nat):Int),L.take (i+1))):=by
 have hl:i<((L.map l5).map mkB).length:=by rw[List.length_map,List.length_map];exact hi
 have hk:edOk L[i].2:=h _ (List.getElem_mem hi)
 have hp:=pP hk
 have eg:((L.map l5).map mkB)[i] =mkB (l5 L[i]):=by simp
 obtain ⟨p1,p2⟩:=QQ hk
 have hs:(l5 L[i]).length=(pf L[i].2).length+1:=by unfold l5;rw[List.length_cons]
 have h4:4≤(pf L[i].2).length:=by rw[Ed hk];simp
 have ed:(l5 L[i]).drop 1=pf L[i].2:=rfl
 have a0:gG (mkB (l5 L[i])) 0=some (((if L[i].1 then (43:UInt8) else 45).toNat:Nat):Int):=atB (l:=l5 L[i]) (i:=0) (by omega)
 have hz:((((if L[i].1 then (43:UInt8) else 45).toNat:Nat):Int)==43)=L[i].1:=by
  generalize L[i].1=t
  cases t <;> rfl
 have hx: ∀z:ChT,cN 40 (L.take i) [z] =some (L.take i++ [z]):=fun z=>az (by rw[List.length_take];simp only[List.length_cons,List.length_nil];omega)
 have et:=List.take_succ_eq_append_getElem hi
 have st:=Kn (p:=l5 L[i]) (by omega)
 constructor
 ·unfold bL
  simp only[]
  rw[bp hl,if_pos rfl,if_pos (decide_eq_true (by omega)),al hl,eg]
  simp only[Option.bind_some]
  rw[bc,if_neg (by simp;omega),st,ed]
  simp only[Option.bind_some]
  rw[p1]
  simp only[Option.bind_some]
  rw[if_pos trivial,a0]
  simp only[Option.bind_some]
  rw[hz,hx,ae (by omega),et];rfl
 ·unfold bQ
  simp only[]
  rw[bp hl,if_pos rfl,al hl,eg]
  simp only[Option.bind_some]
  rw[ph,if_neg (by simp[l5]),bc,st,ed]
  simp only[Option.bind_some]
  rw[p2]
  simp only[Option.bind_some]
  rw[if_pos trivial,a0]
  simp only[Option.bind_some]
  rw[hz,hx,ae (by omega),et];rfl
theorem Sr {L:List ChT} (h:vo L) (h6:L.length≤6):cO (mkB (btx L))=some (L,true)∧cP (mkB (btx L))=some (L,true):=by
 by_cases h0:L= []
 ·subst h0
  unfold cO cP
  rw[Km]
  exact ⟨rfl,rfl⟩
 have hn:=AE h
 have hl:(btx L).length≤1000000:=by omega
 have eb: ∀s i:Option ByteArray,True:=fun _ _=>trivial
 obtain ⟨b1,b2⟩:=pQ L
 rw[if_pos ⟨h6,h⟩] at b1 b2
 have hs:=bg (f:=bL ((L.map l5).map mkB)) (fun i=>((i:Int),L.take i)) L.length (fun i hi=>(Ko h h6 hi).1) (by
  unfold bL
  simp only[]
  rw[if_neg (by simp)]) (fH _ (by omega))
 have hi:=bg (f:=bQ ((L.map l5).map mkB)) (fun i=>((i:Int),L.take i)) L.length (fun i hi=>(Ko h h6 hi).2) (by
  unfold bQ
  simp only[]
  rw[if_neg (by simp)]) (fH _ (by omega))
 rw[List.take_length] at hs hi
 constructor
 ·unfold cO
  have ec:fA (mkB (btx L)) 32=some ((l6 32 [] (btx L)).map mkB):=se _ 32 hl
  rw[ph,if_neg (by simpa using OL h0),ec,Kl h h0]
  simp only[Option.bind_some]
  have hs:ai (bL ((L.map l5).map mkB)) aN (0,([] :List ChT))=_:=hs
  rw[aj hs]
  simp only[]
  rw[b1]
  simp
 ·unfold cP
  have ec:bP (mkB (btx L)) (⟨#[32]⟩)=some ((l6 32 [] (btx L)).map mkB):=AJ _ 32 hl
  rw[ph,if_neg (by simpa using OL h0),ec,Kl h h0]
  simp only[Option.bind_some]
  have hi:ai (bQ ((L.map l5).map mkB)) aN (0,([] :List ChT))=_:=hi
  rw[aj hi]
  simp only[]
  rw[b2]
  simp
theorem QR (l:List UInt8) (hl:l.length≤1000000): ∃r,cO (mkB l)=some r∧cP (mkB l)=some r∧Tj l r:=by
 by_cases h: ∃L:List ChT,L.length≤6∧vo L∧l=btx L
 ·obtain ⟨L,h6,hk,rfl⟩:=h
  exact ⟨_,(Sr hk h6).1,(Sr hk h6).2,.inr ⟨rfl,h6,hk,rfl⟩⟩
 ·have hne:l≠ []:=fun e=>h ⟨[],by simp,fun c hc=>by simp at hc,by rw[e,Km]⟩
  obtain ⟨r1,e1,k1⟩:=U2 l hl
  obtain ⟨r2,e2,k2⟩:=U3 l hl
  rcases k1 with k | rfl | ⟨-,a,b,c⟩
  ·exact absurd k hne
  ·rcases k2 with k | rfl | ⟨-,a,b,c⟩
   ·exact absurd k hne
   ·exact ⟨_,e1,e2,.inl rfl⟩
   ·exact absurd ⟨_,a,b,c⟩ h
  ·exact absurd ⟨_,a,b,c⟩ h
end D
namespace D
open Go.RowKit
def recT (v:Int) (b:List ChT):List UInt8:=((dh v b).getD ByteArray.empty).data.toList
theorem Ss (v:Int) (b:List ChT):dh v b=some (mkB (recT v b))∧eZ v b=some (mkB (recT v b))∧(recT v b).length≤1000:=by
 obtain ⟨r,e1,e2,h⟩:=xn v b
 have e:mkB (recT v b)=r:=by unfold recT;rw[e1];exact AG r
 rw[←e,bc] at h
 rw[e]
 exact ⟨e1,e2,h⟩
def totL (r:List Int) (q:List (List ChT)):Nat→Nat
 | 0=>0
 | i+1=>totL r q i+(recT (nth r (i:Int)) (nth q (i:Int))).length
theorem FH {r:List Int} {q:List (List ChT)} (h:q.length=r.length) (x:List Int) (y:List (List ChT)): ∀i,i≤r.length→totL (r++x) (q++y) i=totL r q i
 | 0,_=>rfl
 | i+1,hi=>by
  rw[totL,totL,FH h x y i (by omega),fI (by omega) (by omega),fI (by omega) (by omega)]
theorem Kp {r:List Int} {q:List (List ChT)} (h:q.length=r.length) (v:Int) (b:List ChT):totL (r++ [v]) (q++ [b]) (r++ [v]).length=totL r q r.length+(recT v b).length:=by
 have e1:nth (r++ [v]) ((r.length:Nat):Int)=v:=by rw[bG (by simp)];simp
 have e2:nth (q++ [b]) ((r.length:Nat):Int)=b:=by rw[←h,bG (by simp)];simp
 rw[List.length_append,List.length_cons,List.length_nil,Nat.zero_add,totL,FH h _ _ _ (Nat.le_refl _),e1,e2]
theorem Kq (l:List UInt8) (hl:l.length≤1000000): ∃r:Int×List ChT×Bool,gp (mkB l)=some r∧gy (mkB l)=some r∧r.2.1.length≤6∧(-999999999≤r.1∧r.1≤999999999)∧(r.2.2=true→recT r.1 r.2.1=l):=by
 unfold gp gy
 have ec:fA (mkB l) 59=some ((l6 59 [] l).map mkB):=se l 59 hl
 have ei:bP (mkB l) (⟨#[59]⟩)=some ((l6 59 [] l).map mkB):=AJ l 59 hl
 rw[ec,ei];simp only[Option.bind_some]
 by_cases h3:(l6 59 [] l).length=3
 ·have hp:=pg 59 l []
  obtain ⟨a,b,c,e⟩:=T0 h3
  rw[e] at hp⊢
  have hb:=hp b (by simp)
  rw[List.length_nil] at hb
  simp only[List.map_cons,List.map_nil]
  have g0:aF [mkB a,mkB b,mkB c] 0=some (mkB a):=rfl
  have g1:aF [mkB a,mkB b,mkB c] 1=some (mkB b):=rfl
  rw[if_neg (by simp),if_neg (by simp)]
  obtain ⟨v,v1,v2,kv⟩:=nE (mkB a)
  obtain ⟨q,q1,q2,k⟩:=QR b (by omega)
  obtain ⟨t,t1,t2,-⟩:=xn v.1 q.1
  have hq:q.1.length≤6:=by
   rcases k with rfl | ⟨-,k,-⟩
   ·simp
   ·exact k
  have hv: -999999999≤v.1∧v.1≤999999999:=by
   rcases kv with ⟨-,k,-⟩ | rfl
   ·exact k
   ·decide
  simp only[g0,g1,v1,v2,q1,q2,t1,t2,Option.bind_some]
  by_cases c1:v.2=true
  ·by_cases c2:q.2=true
   ·by_cases c3:(t !=mkB l)=true
    ·simp only[if_pos c1,if_pos c2,if_pos c3];exact ⟨_,rfl,rfl,by simp,by decide,fun c=>by cases c⟩
    ·simp only[if_pos c1,if_pos c2,if_neg c3];exact ⟨_,rfl,rfl,hq,hv,fun _=>by
      have e:t=mkB l:=by simpa using c3
      have e2:=(Ss v.1 q.1).1
      rw[t1,e] at e2
      exact (tq (Option.some.inj e2)).symm⟩
   ·simp only[if_pos c1,if_neg c2];exact ⟨_,rfl,rfl,by simp,by decide,fun c=>by cases c⟩
  ·simp only[if_neg c1];exact ⟨_,rfl,rfl,by simp,by decide,fun c=>by cases c⟩
 ·have k:(((List.map mkB (l6 59 [] l)).length:Int) !=3)=true:=by
   rw[bne_iff_ne,List.length_map];omega
  rw[if_pos k,if_pos k]
  exact ⟨_,rfl,rfl,by simp,by decide,fun c=>by cases c⟩
def ScOk (vs:List Int) (bs:List (List ChT)):Prop:=bs.length=vs.length∧(∀b∈bs,b.length≤6)∧ ∀v∈vs,(-999999999≤v∧v≤999999999)∧v≤nth vs ((vs.length:Int) - 1)
theorem Nn (vs:List Int) (v:Int):nth (vs++ [v]) (((vs++ [v]).length:Int) - 1)=v:=by
 have e:(((vs++ [v]).length:Int) - 1)=((vs.length:Nat):Int):=by simp
 rw[e,bG (by simp)];simp
theorem ScOk.push {vs:List Int} {bs:List (List ChT)} (h:ScOk vs bs) {v:Int} {b:List ChT} (hb:b.length≤6) (hv: -999999999≤v∧v≤999999999) (hx:0<vs.length→v=IntKind.i64.wrap (nth vs ((vs.length:Int) - 1)+1)):ScOk (vs++ [v]) (bs++ [b]):=by
 obtain ⟨h1,h2,h3⟩:=h
 refine ⟨by simp;omega,fun d hd=>?_,fun d hd=>?_⟩
 ·rcases List.mem_append.1 hd with q | q
  ·exact h2 d q
  ·obtain rfl:=List.mem_singleton.1 q;exact hb
 ·rw[Nn]
  rcases List.mem_append.1 hd with q | q
  ·have h0:0<vs.length:=List.length_pos_of_mem q
   obtain ⟨k1,k2⟩:=h3 d q
   obtain ⟨k3,-⟩:=h3 _ (iK (xs:=vs) (i:=(vs.length:Int) - 1) (by omega) (by omega))
   have:=hx h0
   rw[dC (by omega) (by omega)] at this
   exact ⟨k1,by omega⟩
  ·obtain rfl:=List.mem_singleton.1 q;exact ⟨hv,Int.le_refl _⟩
theorem AK {l:List UInt8} (hl:l.length≤4000) {vs:List Int} {bs:List (List ChT)} {u:Int} : ∀(a r:List UInt8) (i k:Nat),(10:UInt8)∉a→l.drop i=a++r→i≤l.length→ai (aP (mkB l)) (k+a.length) (vs,bs,u,(i:Int))=ai (aP (mkB l)) k (vs,bs,u,((i+a.length:Nat):Int))
 | [],r,i,k,_,_,_=>rfl
 | x::a,r,i,k,hx,e,hi=>by
  have h1:i<l.length:=by
   have:=congrArg List.length e
   rw[List.length_drop,List.length_append,List.length_cons] at this;omega
  have e0:=List.drop_eq_getElem_cons h1
  rw[e0,List.cons_append] at e
  obtain ⟨e1,e2⟩:=List.cons.inj e
  have hn:x.toNat≠10:=fun q=>hx (by
   have:x=10:=UInt8.toNat_inj.1 q
   rw[this];simp)
  have st:aP (mkB l) (vs,bs,u,(i:Int))=some (.nxt (vs,bs,u,((i+1:Nat):Int))):=by
   unfold aP
   simp only[]
   rw[bc,bp h1,if_pos rfl,if_pos (decide_eq_true (by omega)),atB h1,e1]
   simp only[Option.bind_some]
   rw[if_pos (by rw[bne_iff_ne];omega),ae (by omega)];rfl
  rw[List.length_cons,show k+(a.length+1)=(k+a.length)+1 by omega,ai,st]
  show ai _ (k+a.length) _=_
  rw[AK hl a r (i+1) k (fun q=>hx (List.mem_cons_of_mem _ q)) e2 h1,show i+1+a.length=i+(a.length+1) by omega]
theorem QS {l:List UInt8} (hl:l.length≤4000): ∀(m p:Nat) (vs:List Int) (bs:List (List ChT)),l.length - p<m→p≤l.length→vs.length≤p→ScOk vs bs→totL vs bs vs.length≤p→ ∃(r:List Int) (q:List (List ChT)) (n:Nat),(∀k,l.length - p+1≤k→(ai (aP (mkB l)) k (vs,bs,(p:Int),(p:Int))=some (.ret (r,q,(n:Int)))∨ ∃i,ai (aP (mkB l)) k (vs,bs,(p:Int),(p:Int))=some (.brk (r,q,(n:Int),i)))∧ai (bF (mkB l)) k (vs,bs,(p:Int))=some (.brk (r,q,(n:Int))))∧n≤l.length∧r.length≤n∧ScOk r q∧totL r q r.length≤n:=by
 intro m
 induction m with
 | zero=>intro p vs bs hm;omega
 | succ m ih =>
  intro p vs bs hm hp hv hb ht
  have hbl:=hb.1
  have hsl:oe (mkB l) (p:Int) (l.length:Int)=some (mkB (l.drop p)):=by
   rw[slB hp (Nat.le_refl _),List.take_length]
  rcases pR 10 (l.drop p) with k | ⟨a,t,e,k⟩
  ·refine ⟨vs,bs,p,fun j hj=>⟨.inr ⟨(l.length:Int),?_⟩,?_⟩,hp,hv,hb,ht⟩
   ·have hd:(l.drop p).length=l.length - p:=List.length_drop ..
    obtain ⟨j,rfl⟩: ∃j',j=(j'+1)+(l.drop p).length:=⟨j - 1 - (l.length - p),by omega⟩
    rw[AK hl (l.drop p) [] p (j+1) k (by simp) hp,ai,hd,show p+(l.length - p)=l.length by omega]
    have:aP (mkB l) (vs,bs,(p:Int),(l.length:Int))=some (.brk (vs,bs,(p:Int),(l.length:Int))):=by
     unfold aP
     simp only[]
     rw[bc,if_neg (by simp)]
    rw[this]
   ·obtain ⟨j,rfl⟩: ∃j',j=j'+1:=⟨j - 1,by omega⟩
    have:bF (mkB l) (vs,bs,(p:Int))=some (.brk (vs,bs,(p:Int))):=by
     unfold bF
     simp only[]
     have ei:du (mkB (l.drop p)) 10=some (-1):=by
      show some (Lib.indexByte _ 10)=_
      rw[dz,FF k]
     rw[bc,if_pos (decide_eq_true (by omega)),hsl]
     simp only[Option.bind_some]
     rw[ei]
     simp only[Option.bind_some]
     rw[if_pos (by decide)]
    rw[ai,this]
  ·have hlen:(l.drop p).length=l.length - p:=List.length_drop ..
   rw[e,List.length_append,List.length_cons] at hlen
   have hn:p+a.length<l.length:=by omega
   have hx:l[p+a.length] =10:=by
    have:(l.drop p)[a.length]? =some 10:=by rw[e];simp
    rw[List.getElem?_drop,List.getElem?_eq_getElem hn] at this
    exact Option.some.inj this
   obtain ⟨r,r1,r2,h6,h9,h8⟩:=Kq ((l.take (p+a.length+1)).drop p) (by rw[List.length_drop,List.length_take];omega)
   have es:oe (mkB l) (p:Int) ((p+a.length+1:Nat):Int)=some (mkB ((l.take (p+a.length+1)).drop p)):=slB (by omega) (by omega)
   have ei:du (mkB (l.drop p)) 10=some (a.length:Int):=by
    show some (Lib.indexByte _ 10)=_
    rw[dz,e,OH k]
   have w1:IntKind.i64.wrap ((IntKind.i64.wrap ((p:Int)+(a.length:Int)))+1)=((p+a.length+1:Nat):Int):=by
    rw[dC (n:=(p:Int)+(a.length:Int)) (by omega) (by omega),dC (by omega) (by omega)];omega
   have w2:IntKind.i64.wrap ((p:Int)+(IntKind.i64.wrap ((a.length:Int)+1)))=((p+a.length+1:Nat):Int):=by
    rw[dC (n:=(a.length:Int)+1) (by omega) (by omega),dC (by omega) (by omega)];omega
   have step:(aP (mkB l) (vs,bs,(p:Int),((p+a.length:Nat):Int))=some (.ret (vs,bs,(p:Int)))∧bF (mkB l) (vs,bs,(p:Int))=some (.brk (vs,bs,(p:Int))))∨(aP (mkB l) (vs,bs,(p:Int),((p+a.length:Nat):Int))=some (.nxt (vs++ [r.1],bs++ [r.2.1],((p+a.length+1:Nat):Int),((p+a.length+1:Nat):Int)))∧bF (mkB l) (vs,bs,(p:Int))=some (.nxt (vs++ [r.1],bs++ [r.2.1],((p+a.length+1:Nat):Int)))∧(0<vs.length→r.1=IntKind.i64.wrap (nth vs ((vs.length:Int) - 1)+1))∧r.2.2=true):=by
    have x1:cN 8 vs [r.1] =some (vs++ [r.1]):=az (by simp only[List.length_cons,List.length_nil];omega)
    have x2:cN 24 bs [r.2.1] =some (bs++ [r.2.1]):=az (by simp only[List.length_cons,List.length_nil];omega)
    unfold aP bF
    simp only[]
    rw[bc,bp hn,if_pos rfl,if_pos (decide_eq_true (by omega)),if_pos (decide_eq_true (by omega)),atB hn,hx,hsl]
    simp only[Option.bind_some]
    rw[if_neg (by decide),ei,ae (show p+a.length<9223372036854775807 by omega),es]
    simp only[Option.bind_some]
    rw[r1,if_neg (by simp),w1,w2,es]
    simp only[Option.bind_some]
    rw[r2]
    simp only[Option.bind_some]
    by_cases c1:r.2.2=true
    ·rw[if_pos c1,if_pos c1]
     by_cases c2:decide ((vs.length:Int)>0)=true
     ·rw[if_pos c2,if_pos c2]
      have h0:0<vs.length:=by simpa using c2
      rw[mN (by omega),aw (xs:=vs) (by omega) (by omega)]
      simp only[Option.bind_some]
      by_cases c3:(r.1 !=IntKind.i64.wrap (nth vs ((vs.length:Int) - 1)+1))=true
      ·rw[if_pos c3,if_pos c3];exact .inl ⟨rfl,rfl⟩
      ·rw[if_neg c3,if_neg c3,x1,x2];exact .inr ⟨rfl,rfl,(fun _=>by simpa using c3),c1⟩
     ·rw[if_neg c2,if_neg c2,x1,x2];exact .inr ⟨rfl,rfl,(fun h=>absurd (decide_eq_true (show (vs.length:Int)>0 by omega)) c2),c1⟩
    ·rw[if_neg c1,if_neg c1];exact .inl ⟨rfl,rfl⟩
   rcases step with ⟨s1,s2⟩ | ⟨s1,s2,s3,s4⟩
   ·refine ⟨vs,bs,p,fun j hj=>⟨.inl ?_,?_⟩,hp,hv,hb,ht⟩
    ·obtain ⟨j,rfl⟩: ∃j',j=(j'+1)+a.length:=⟨j - 1 - a.length,by omega⟩
     rw[AK hl a (10::t) p (j+1) k e hp,ai,s1]
    ·obtain ⟨j,rfl⟩: ∃j',j=j'+1:=⟨j - 1,by omega⟩
     rw[ai,s2]
   ·have hT:totL (vs++ [r.1]) (bs++ [r.2.1]) (vs++ [r.1]).length≤p+a.length+1:=by
     rw[Kp hbl,h8 s4,List.length_drop,List.length_take];omega
    obtain ⟨R,Q,n,h1,h2,h3,h4⟩:=ih (p+a.length+1) (vs++ [r.1]) (bs++ [r.2.1]) (by omega) (by omega) (by simp;omega) (hb.push h6 h9 s3) hT
    refine ⟨R,Q,n,fun j hj=>⟨?_,?_⟩,h2,h3,h4⟩
    ·obtain ⟨j,rfl⟩: ∃j',j=(j'+1)+a.length:=⟨j - 1 - a.length,by omega⟩
     rw[AK hl a (10::t) p (j+1) k e hp,ai,s1]
     exact (h1 j (by omega)).1
    ·obtain ⟨j,rfl⟩: ∃j',j=j'+1:=⟨j - 1,by omega⟩
     rw[ai,s2]
     exact (h1 j (by omega)).2
theorem CG (l:List UInt8) (hl:l.length≤1000000000): ∃(r:List Int) (q:List (List ChT)) (n:Nat),m_s_ScanLog (mkB l)=some (r,q,(n:Int))∧m_i_ScanLog (mkB l)=some (r,q,(n:Int))∧n≤l.length∧r.length≤4000∧ScOk r q∧totL r q r.length≤n:=by
 unfold m_s_ScanLog m_i_ScanLog
 by_cases h:l.length≤4000
 ·obtain ⟨r,q,n,h1,h2,h3,h4⟩:=QS h (l.length+1) 0 [] [] (by omega) (by omega) (by simp) ⟨rfl,fun b hb=>(by cases hb),fun b hb=>(by cases hb)⟩ (Nat.zero_le _)
  obtain ⟨k1,k2⟩:=h1 aN (fH _ (by omega))
  have k2:ai (bF (mkB l)) aN (([] :List Int),([] :List (List ChT)),0)=some (.brk (r,q,(n:Int))):=k2
  refine ⟨r,q,n,?_,?_,h2,by omega,h4⟩
  ·rcases k1 with k1 | ⟨i,k1⟩
   ·have k1:ai (aP (mkB l)) aN (([] :List Int),([] :List (List ChT)),0,0)=_:=k1
    rw[bR k1]
   ·have k1:ai (aP (mkB l)) aN (([] :List Int),([] :List (List ChT)),0,0)=_:=k1
    rw[aj k1]
  ·rw[aj k2]
 ·have hf:=fH 100 (by omega)
  obtain ⟨k,hk⟩: ∃k,aN=k+1:=⟨aN - 1,by omega⟩
  have k1:ai (aP (mkB l)) aN (([] :List Int),([] :List (List ChT)),0,0)=some (.brk ([],[],0,0)):=by
   rw[hk,ai]
   have:aP (mkB l) (([] :List Int),([] :List (List ChT)),0,0)=some (.brk ([],[],0,0)):=by
    unfold aP
    simp only[]
    rw[bc,if_pos (decide_eq_true (by omega)),if_neg (by simp;omega)]
   rw[this]
  have k2:ai (bF (mkB l)) aN (([] :List Int),([] :List (List ChT)),0)=some (.brk ([],[],0)):=by
   rw[hk,ai]
   have:bF (mkB l) (([] :List Int),([] :List (List ChT)),0)=some (.brk ([],[],0)):=by
    unfold bF
    simp only[]
    rw[bc,if_neg (by simp;omega)]
   rw[this]
  rw[aj k1,aj k2]
  exact ⟨[],[],0,rfl,rfl,by omega,by simp,⟨rfl,fun b hb=>(by cases hb),fun b hb=>(by cases hb)⟩,Nat.le_refl _⟩
end D
namespace D
open Go.RowKit
abbrev GrT:=(List Int)×(List (Int×Int×Int×Int))
theorem Su {R:Type} {f:Int→Option (Out R Int)} (N:Nat) (p:Nat→Prop) [DecidablePred p] (r:R) (hN:N≤9223372036854775807)
  (h: ∀i:Nat,i<N→f (i:Int)=some (if p i then .nxt ((i+1:Nat):Int) else .ret r)) (he:f (N:Int)=some (.brk (N:Int))) :
  (ai f aN 0=some (.brk (N:Int))∧ ∀i,i<N→p i)∨(ai f aN 0=some (.ret r)∧ ¬ ∀i,i<N→p i):=by
 obtain ⟨o,e,hq⟩:=cq (f:=f) (fun i s=>s=(i:Int)∧ ∀j:Nat,j<i→p j) (fun o=>(o= .brk (N:Int)∧ ∀i,i<N→p i)∨(o= .ret r∧ ¬ ∀i,i<N→p i)) N (s:=0) (by
  rintro i s hi ⟨rfl,hp⟩
  by_cases hl:i<N
  ·by_cases c:p i
   ·refine .inl ⟨hl,_,by rw[h i hl,if_pos c],rfl,fun j hj=>?_⟩
    by_cases e:j=i
    ·subst e;exact c
    ·exact hp j (by omega)
   ·exact .inr ⟨_,by rw[h i hl,if_neg c],(fun s' e=>by cases e),.inr ⟨rfl,fun hx=>c (hx i hl)⟩⟩
  ·obtain rfl:i=N:=by omega
   exact .inr ⟨_,he,(fun s' e=>by cases e),.inl ⟨rfl,hp⟩⟩) ⟨rfl,by omega⟩ (q9 hN)
 rcases hq with ⟨rfl,hq⟩ | ⟨rfl,hq⟩
 ·exact .inl ⟨e,hq⟩
 ·exact .inr ⟨e,hq⟩
structure GOk (g:GrT):Prop where
 n1:1≤g.1.length
 n5:g.1.length≤5
 m:g.2.length≤12
 val: ∀v∈g.1,0≤v∧v≤2
 edge: ∀e∈g.2,(0≤e.2.1∧e.2.1<g.1.length)∧(0≤e.2.2.1∧e.2.2.1<g.1.length)∧0≤e.2.2.2∧e.2.2.2≤2
 asc: ∀i:Nat,i+1<g.2.length→(nth g.2 i).1<(nth g.2 ((i+1:Nat):Int)).1
def edgeP (e:Int×Int×Int×Int) (n:Int):Prop:=(1≤e.1∧e.1≤99)∧(0≤e.2.1∧e.2.1≤n - 1)∧(0≤e.2.2.1∧e.2.2.1≤n - 1)∧0≤e.2.2.2∧e.2.2.2≤2
instance (e n):Decidable (edgeP e n):=by unfold edgeP;infer_instance
theorem Sv (e:Int×Int×Int×Int) {n:Nat} (hn:n≤1048576):gM e (n:Int)=some (decide (edgeP e n)):=by
 unfold gM edgeP
 simp only[Ec,Option.bind_some,mN (show n≤9223372036854775807 by omega)]
 by_cases c1:1≤e.1∧e.1≤99 <;> by_cases c2:0≤e.2.1∧e.2.1≤(n:Int) - 1 <;> by_cases c3:0≤e.2.2.1∧e.2.2.1≤(n:Int) - 1 <;> simp[c1,c2,c3]
theorem No (g:GrT) (h1:g.1.length≤1048576) (h2:g.2.length≤1048576): ∃b,bH g=some b∧(b=true→GOk g):=by
 unfold bH
 have k0:=Su (f:=cU g) g.1.length (fun i=>0≤nth g.1 i∧nth g.1 i≤2) false (by omega) (fun i hi=>by
  unfold cU
  rw[if_pos (by simp;omega),aw (by omega) (by omega)];simp only[Option.bind_some,Ec,decide_eq_true_eq]
  split
  ·rw[ae (by omega)]
  ·rfl) (by unfold cU;rw[if_neg (by simp)])
 have k1:=Su (f:=cj g) g.2.length (fun i=>edgeP (nth g.2 i) g.1.length∧(0<i→(nth g.2 ((i:Int) - 1)).1<(nth g.2 i).1)) false (by omega) (fun i hi=>by
  unfold cj
  rw[if_pos (by simp;omega),aw (by omega) (by omega)];simp only[Option.bind_some]
  have e1:=Sv (nth g.2 (i:Int)) h1
  have e1:gM ((nth g.2 (i:Int)).1,(nth g.2 (i:Int)).2.1,(nth g.2 (i:Int)).2.2.1,(nth g.2 (i:Int)).2.2.2) (g.1.length:Int)=_:=e1
  rw[e1];simp only[Option.bind_some,decide_eq_true_eq]
  by_cases c1:edgeP (nth g.2 (i:Int)) g.1.length
  ·rw[if_pos c1]
   by_cases c2:0<i
   ·rw[if_pos (by omega),mN (by omega),aw (by omega) (by omega)];simp only[Option.bind_some]
    by_cases c3:(nth g.2 ((i:Int) - 1)).1<(nth g.2 (i:Int)).1
    ·rw[if_neg (by omega),if_pos ⟨c1,fun _=>c3⟩,ae (by omega)]
    ·rw[if_pos (by omega),if_neg (fun h=>c3 (h.2 c2))]
   ·rw[if_neg (by omega),if_pos ⟨c1,fun h=>absurd h c2⟩,ae (by omega)]
  ·rw[if_neg c1,if_neg (fun h=>c1 h.1)]) (by unfold cj;rw[if_neg (by simp)])
 rcases k0 with ⟨k0,j0⟩ | ⟨k0,j0⟩
 ·rw[aj k0]
  rcases k1 with ⟨k1,j1⟩ | ⟨k1,j1⟩
  ·rw[aj k1,Ec];simp only[Option.bind_some,decide_eq_true_eq]
   split
   ·rename_i c
    refine ⟨_,rfl,fun hb=>?_⟩
    have hb:=of_decide_eq_true hb
    refine ⟨by omega,by omega,by omega,fun v hv=>?_,fun e he=>?_,fun i hi=>?_⟩
    ·obtain ⟨i,hi,rfl⟩:=D9 hv
     exact j0 i hi
    ·obtain ⟨i,hi,rfl⟩:=D9 he
     obtain ⟨a1,a2,a3,a4⟩:=(j1 i hi).1
     exact ⟨⟨a2.1,by omega⟩,⟨a3.1,by omega⟩,a4⟩
    ·have:=(j1 (i+1) hi).2 (by omega)
     rwa [show (((i+1:Nat):Int) - 1)=(i:Int) from by omega] at this
   ·exact ⟨false,rfl,fun h=>by cases h⟩
  ·rw[bR k1];exact ⟨false,rfl,fun h=>by cases h⟩
 ·rw[bR k0];exact ⟨false,rfl,fun h=>by cases h⟩
end D
namespace D
open Go.RowKit
end D
namespace D
open Go.RowKit
section
variable {a:AutT} {n:Nat} (V:VA a n) (hn:n≤12)
include V hn
end
section
variable {a:AutT} {n:Nat} (V:VA a n) (hn:n≤12)
include V hn
end
section
variable {a:AutT} {n:Nat} (V:VA a n) (hn:n≤12)
include V
include hn
end
end D
namespace D
open Go.RowKit
section
variable {α:Type} {N:Nat} {F G:Nat→α}
end
abbrev EdT:=Int×Int×Int×Int
abbrev ArT:=(Int×Bool)×Int×Int
def inv (e:EdT):ArT:=((e.1,true),2*e.2.2.2+1,e.2.1)
end D
namespace D
open Go.RowKit
section
variable {g:GrT} {a:AutT} (G:GOk g) (V:VA a a.2.1.length) (hn:a.2.1.length≤12)
include G V hn
end
section
variable {g:GrT} {a:AutT} {F:Nat→List Int} {N:Nat}
end
section
variable {g:GrT} {a:AutT} (G:GOk g) (V:VA a a.2.1.length) (hn:a.2.1.length≤12)
include G V hn
end
end D
namespace D
open Go.RowKit
section
variable {a:AutT} {n:Nat} (V:VA a n) (hn:n≤12)
include V hn
end
section
variable {g:GrT} {a:AutT} (G:GOk g) (V:VA a a.2.1.length) (hn:a.2.1.length≤12)
include G V hn
end
end D
namespace D
open Go.RowKit
section
variable {nx:Int→List Int} {N:Nat} {v:Int} (hv:0≤v∧v<N) (hn: ∀x:Int,0≤x→x<N→ ∀y∈nx x,0≤y∧y<N)
include hv
include hn
end
end D
namespace D
open Go.RowKit
section
variable {nx:Int→List Int} {N:Nat} {v:Int} (hN:N≤60) (hv:0≤v∧v<N) (hn: ∀x:Int,0≤x→x<N→ ∀y∈nx x,0≤y∧y<N) (hl: ∀x,(nx x).length≤100000)
include hN hv hn hl
end
end D
namespace D
open Go.RowKit
end D
namespace D
open Go.RowKit
theorem Kr (g:GrT):eW g=bH g:=by
 have h0:kG g=cU g:=rfl
 have h1:gH g=cj g:=by
  funext s
  unfold gH cj
  split
  ·cases hx:aF g.2 s with
   | none=>rfl
   | some x=>rfl
  ·rfl
 unfold eW bH
 rw[h0,h1];rfl
def T1 (g:GrT) (a:AutT):Prop:=GOk g∧a.2.1.length≤12∧VA a a.2.1.length
section
variable {g:GrT} {a:AutT} (H:T1 g a)
include H
end
section
variable {g:GrT} {a:AutT} (H:T1 g a)
include H
end
section
variable {g:GrT} {a:AutT} (H:T1 g a) {x:Int} (hx:0≤x∧x<g.1.length)
include H hx
end
end D
namespace D
open Go.RowKit
abbrev Tok:=Int×Int×Int×Int
def ar (t:Tok):Int:=
 if t.1=1∨t.1=2 then (if t.2.1=0∧t.2.2.1=0∧t.2.2.2=0 then 0 else -1)
 else if t.1=3 then (if (0≤t.2.1∧t.2.1≤8)∧t.2.2.1=0∧t.2.2.2=0 then 0 else -1)
 else if t.1=4∨t.1=5 then (if t.2.1=0∧t.2.2.1=0∧t.2.2.2=0 then 2 else -1)
 else if t.1=6 then (if t.2.1=0∧t.2.2.1=0∧t.2.2.2=0 then 1 else -1)
 else if t.1=7 then (if t.2.1=0∧(0≤t.2.2.1∧t.2.2.1≤t.2.2.2)∧(1≤t.2.2.2∧t.2.2.2≤3) then 1 else -1)
 else -1
theorem Np (x:Int):jI x=some (decide (0≤x∧x≤8)):=by unfold jI;rw[Ke];rfl
theorem Nq (x:Int):gN x=some (decide (0≤x∧x≤8)):=by unfold gN;rw[Ec];rfl
theorem UK (t:Tok):kI t=some (ar t):=by
 obtain ⟨k,l,lo,hi⟩:=t
 unfold kI ar
 simp only[Np,Ke,Option.bind_some]
 by_cases h1:k=1
 ·subst h1;simp;grind
 by_cases h2:k=2
 ·subst h2;simp;grind
 by_cases h3:k=3
 ·subst h3;simp;grind
 by_cases h4:k=4
 ·subst h4;simp;grind
 by_cases h5:k=5
 ·subst h5;simp;grind
 by_cases h6:k=6
 ·subst h6;simp;grind
 by_cases h7:k=7
 ·subst h7;simp;grind
 simp[h1,h2,h3,h4,h5,h6,h7]
theorem Sw (t:Tok):np t=some (decide (0≤ar t)):=by
 obtain ⟨k,l,lo,hi⟩:=t
 unfold np ar
 simp only[Nq,Ec,Option.bind_some]
 by_cases h1:k=1
 ·subst h1;simp;grind
 by_cases h2:k=2
 ·subst h2;simp;grind
 by_cases h3:k=3
 ·subst h3;simp only[]
  by_cases a:0≤l∧l≤8 <;> by_cases b:lo=0 <;> by_cases c:hi=0 <;> simp[a,b,c]
 by_cases h4:k=4
 ·subst h4;simp;grind
 by_cases h5:k=5
 ·subst h5;simp;grind
 by_cases h6:k=6
 ·subst h6;simp;grind
 by_cases h7:k=7
 ·subst h7;simp only[]
  by_cases a:l=0 <;> by_cases b:0≤lo∧lo≤hi <;> by_cases c:1≤hi∧hi≤3 <;> simp[a,b,c]
 simp[h1,h2,h3,h4,h5,h6,h7]
theorem sf (t:Tok): -1≤ar t∧ar t≤2:=by
 unfold ar
 grind
theorem k9 {t:Tok} (h:0≤ar t):(ar t=2∧(t.1=4∨t.1=5))∨(ar t=1∧(t.1=6∨t.1=7))∨(ar t=0∧(t.1=1∨t.1=2∨t.1=3)):=by
 unfold ar at h⊢
 grind
theorem xo {t:Tok} (h:0≤ar t) (k:t.1=7):(0≤t.2.2.1∧t.2.2.1≤t.2.2.2)∧(1≤t.2.2.2∧t.2.2.2≤3):=by
 unfold ar at h
 grind
mutual
def flat:Tr Tok→List Tok
 | .nil=>[]
 | .node t ks=>gI ks++ [t]
def gI:List (Tr Tok)→List Tok
 | [] =>[]
 | k::ks=>flat k++gI ks
end
inductive WT:Tr Tok→Prop
 | node {t:Tok} {ks:List (Tr Tok)} :ar t=(ks.length:Int)→(∀k,k∈ks→WT k)→WT (.node t ks)
theorem mP: ∀(a b:List (Tr Tok)),gI (a++b)=gI a++gI b
 | [],b=>rfl
 | k::a,b=>by rw[List.cons_append,gI,gI,mP a b,List.append_assoc]
theorem jR (x:Tr Tok):gI [x] =flat x:=by rw[gI,gI,List.append_nil]
theorem Ks (x y:Tr Tok):gI [x,y] =flat x++flat y:=by rw[gI,jR]
theorem WT.cases {x:Tr Tok} (h:WT x):(∃t,x= .node t [] ∧ar t=0)∨(∃t a,x= .node t [a] ∧ar t=1∧WT a)∨ ∃t a b,x= .node t [a,b] ∧ar t=2∧WT a∧WT b:=by
 cases h with
 | @node t ks h1 h2 =>
  have:=(sf t).2
  match ks,h1,h2 with
  | [],h1,h2=>exact .inl ⟨t,rfl,h1⟩
  | [a],h1,h2=>exact .inr (.inl ⟨t,a,rfl,h1,h2 a (by simp)⟩)
  | [a,b],h1,h2=>exact .inr (.inr ⟨t,a,b,rfl,h1,h2 a (by simp),h2 b (by simp)⟩)
  | _::_::_::_,h1,h2=>simp at h1;omega
theorem WT.ind {p:Tr Tok→Prop} (h0: ∀t,ar t=0→p (.node t [])) (h1: ∀t a,ar t=1→WT a→p a→p (.node t [a])) (h2: ∀t a b,ar t=2→WT a→WT b→p a→p b→p (.node t [a,b])) {x:Tr Tok} (h:WT x):p x:=by
 induction h with
 | @node t ks e k ih =>
  have:=(sf t).2
  match ks,e,k,ih with
  | [],e,k,ih=>exact h0 t e
  | [a],e,k,ih=>exact h1 t a e (k a (by simp)) (ih a (by simp))
  | [a,b],e,k,ih=>exact h2 t a b e (k a (by simp)) (k b (by simp)) (ih a (by simp)) (ih b (by simp))
  | _::_::_::_,e,_,_=>simp at e;omega
theorem yi (t:Tok):flat (.node t [])= [t]:=by rw[flat,gI];rfl
theorem AL (t:Tok) (a:Tr Tok):flat (.node t [a])=flat a++ [t]:=by rw[flat,jR]
theorem qX (t:Tok) (a b:Tr Tok):flat (.node t [a,b])=(flat a++flat b)++ [t]:=by rw[flat,Ks]
theorem WT.pos {x:Tr Tok} (h:WT x):1≤(flat x).length:=by
 cases h with
 | node h1 h2=>rw[flat];simp
def stp (s:List (Tr Tok)) (t:Tok):Option (List (Tr Tok)):=if ar t<0∨(s.length:Int)<ar t then none else some (s.take (s.length - (ar t).toNat)++ [.node t (s.drop (s.length - (ar t).toNat))])
def run:List (Tr Tok)→List Tok→Option (List (Tr Tok))
 | s,[] =>some s
 | s,t::l=>(stp s t).bind fun s'=>run s' l
theorem AM: ∀(a:List Tok) {b:List Tok} {s:List (Tr Tok)},run s (a++b)=(run s a).bind fun s'=>run s' b
 | [],b,s=>rfl
 | t::a,b,s=>by
  rw[List.cons_append,run,run]
  cases stp s t with
  | none=>rfl
  | some s'=>exact AM a
theorem sg {a:List Tok} {t:Tok} {s:List (Tr Tok)} :run s (a++ [t])=(run s a).bind fun s'=>stp s' t:=by
 rw[AM]
 congr 1
 funext s'
 rw[run]
 cases stp s' t <;> rfl
theorem ON: ∀ {l:List Tok} {s s':List (Tr Tok)},run s l=some s'→(∀k,k∈s→WT k)→(∀k,k∈s'→WT k)∧gI s'=gI s++l
 | [],s,s',h,hs=>by
  obtain rfl:=Option.some.inj h
  exact ⟨hs,by simp⟩
 | t::l,s,s',h,hs=>by
  rw[run] at h
  unfold stp at h
  by_cases c:ar t<0∨(s.length:Int)<ar t
  ·rw[if_pos c] at h;cases h
  ·rw[if_neg c] at h
   have hlen:(s.drop (s.length - (ar t).toNat)).length=(ar t).toNat:=by rw[List.length_drop];omega
   obtain ⟨k1,k2⟩:=ON (show run _ l=some s' from h) fun k hk=>by
    rcases List.mem_append.1 hk with hk | hk
    ·exact hs k (List.mem_of_mem_take hk)
    ·obtain rfl:=List.mem_singleton.1 hk
     exact .node (by rw[hlen];omega) fun k hk=>hs k (List.mem_of_mem_drop hk)
   refine ⟨k1,?_⟩
   rw[k2,mP,jR,flat,←List.append_assoc,←mP,List.take_append_drop]
   simp
theorem Nr {x:Tr Tok} (h:WT x): ∀s,run s (flat x)=some (s++ [x]):=by
 refine WT.ind (p:=fun x=> ∀s,run s (flat x)=some (s++ [x])) ?_ ?_ ?_ h
 ·intro t e s
  rw[yi,run,stp,if_neg (by omega),e]
  simp[run]
 ·intro t a e _ ia s
  rw[AL,sg,ia]
  show stp (s++ [a]) t=_
  rw[stp,if_neg (by simp;omega),e]
  simp
 ·intro t a b e _ _ ia ib s
  rw[qX,sg,AM,ia]
  show ((run (s++ [a]) (flat b)).bind fun s'=>stp s' t)=_
  rw[ib]
  show stp (s++ [a] ++ [b]) t=_
  rw[stp,if_neg (by simp;omega),e]
  have:(s++ [a] ++ [b]).length - (2:Int).toNat=s.length:=by simp
  rw[this]
  simp
def isX (e:List Tok):Bool:=match run [] e with
 | some [_] =>true
 | _=>false
theorem Kt {e:List Tok} (h:isX e=true): ∃x,run [] e=some [x] ∧WT x∧flat x=e:=by
 unfold isX at h
 split at h
 ·rename_i x hx
  obtain ⟨k1,k2⟩:=ON hx (fun k hk=>by cases hk)
  refine ⟨x,hx,k1 x (by simp),?_⟩
  rw[jR] at k2
  rw[k2];rfl
 ·cases h
theorem Ku {l:List Tok} : ∀ {s s':List (Tr Tok)},run s l=some s'→s'.length≤s.length+l.length:=by
 induction l with
 | nil=>intro s s' h;obtain rfl:=Option.some.inj h;simp
 | cons t l ih =>
  intro s s' h
  rw[run] at h
  obtain ⟨s1,h1,h2⟩:=Option.bind_eq_some_iff.1 h
  have h3:=ih h2
  unfold stp at h1
  split at h1
  ·cases h1
  ·obtain rfl:=Option.some.inj h1
   simp only[List.length_append,List.length_take,List.length_cons,List.length_nil] at h3⊢
   omega
theorem xp {e:List Tok} {i:Nat} (h:i<e.length):e.take (i+1)=e.take i++ [nth e (i:Int)]:=by
 rw[List.take_succ_eq_append_getElem h,bG h]
theorem vp {e:List Tok} {i:Nat} (h:i<e.length) {st:List (Tr Tok)} (h1:run [] (e.take i)=some st) (h2:stp st (nth e (i:Int))=none):run [] e=none:=by
 have:run [] (e.take (i+1))=none:=by rw[xp h,sg,h1];exact h2
 rw[←List.take_append_drop (i+1) e,AM,this];rfl
theorem Ns {e:List Tok} (he:e.length≤1048576):pE e=some (isX e):=by
 obtain ⟨o,eo,hq⟩:=cq (f:=ng e) (fun i s=> ∃st,s=((st.length:Int),(i:Int))∧run [] (e.take i)=some st) (fun o=>(o= .ret false∧run [] e=none)∨ ∃st,o= .brk ((st.length:Int),(e.length:Int))∧run [] e=some st) e.length (s:=(0,0)) (by
  rintro i s hi ⟨st,rfl,hst⟩
  have hl:=Ku hst
  simp only[List.length_nil,List.length_take] at hl
  unfold ng
  simp only[ez]
  by_cases c:i<e.length
  ·rw[if_pos (by simp;omega),aw (by omega) (by omega)];simp only[Option.bind_some]
   rw[UK];simp only[Option.bind_some]
   have hr:=sf (nth e (i:Int))
   by_cases c1:ar (nth e (i:Int))<0
   ·refine .inr ⟨_,by rw[if_pos (by simpa using c1)],(fun s' e=>by cases e),.inl ⟨rfl,vp c hst ?_⟩⟩
    rw[stp,if_pos (.inl c1)]
   ·rw[if_neg (by simpa using c1)]
    by_cases c2:ar (nth e (i:Int))>(st.length:Int)
    ·refine .inr ⟨_,by rw[if_pos (by simpa using c2)],(fun s' e=>by cases e),.inl ⟨rfl,vp c hst ?_⟩⟩
     rw[stp,if_pos (.inr c2)]
    ·rw[if_neg (by simpa using c2)]
     refine .inl ⟨c,_,rfl,st.take (st.length - (ar (nth e (i:Int))).toNat)++ [.node (nth e (i:Int)) (st.drop (st.length - (ar (nth e (i:Int))).toNat))],?_,?_⟩
     ·rw[dC (n:=(st.length:Int) - ar (nth e (i:Int))) (by omega) (by omega),dC (by omega) (by omega),ae (by omega)]
      congr 1
      simp only[List.length_append,List.length_take,List.length_cons,List.length_nil]
      omega
     ·rw[xp c,sg,hst]
      show stp st _=_
      rw[stp,if_neg (by omega)]
  ·obtain rfl:i=e.length:=by omega
   rw[List.take_of_length_le (by omega)] at hst
   exact .inr ⟨_,by rw[if_neg (by simp)],(fun s' e=>by cases e),.inr ⟨st,rfl,hst⟩⟩) ⟨[],rfl,rfl⟩ (q9 (by omega))
 unfold pE
 rcases hq with ⟨rfl,h⟩ | ⟨st,rfl,h⟩
 ·rw[bR eo];unfold isX;rw[h]
 ·rw[aj eo];unfold isX;rw[h]
  match st with
  | [] =>rfl
  | [_] =>rfl
  | _::_::_=>simp;omega
theorem T2 {t:Tok} (h:0≤ar t):(Option.bind ((if t.1==4 then (some (t.1==4)) else (some (t.1==5)):Option Bool)) (fun s3=>if s3 then (some 2) else (Option.bind ((if t.1==6 then (some (t.1==6)) else (some (t.1==7)):Option Bool)) (fun s4=>if s4 then (some 1) else (some 0)))):Option Int)=some (ar t):=by
 rcases k9 h with ⟨e,k | k⟩ | ⟨e,k | k⟩ | ⟨e,k | k | k⟩ <;> rw[e] <;> simp[k]
theorem QU (t:Tok): ∃n:Int,(Option.bind ((if t.1==4 then (some (t.1==4)) else (some (t.1==5)):Option Bool)) (fun s3=>if s3 then (some 2) else (Option.bind ((if t.1==6 then (some (t.1==6)) else (some (t.1==7)):Option Bool)) (fun s4=>if s4 then (some 1) else (some 0)))):Option Int)=some n:=by
 by_cases h4:t.1=4
 ·exact ⟨2,by simp[h4]⟩
 by_cases h5:t.1=5
 ·exact ⟨2,by simp[h5]⟩
 by_cases h6:t.1=6
 ·exact ⟨1,by simp[h6]⟩
 by_cases h7:t.1=7
 ·exact ⟨1,by simp[h7]⟩
 exact ⟨0,by simp[h4,h5,h6,h7]⟩
def uV (e:List Tok):Tr Tok:=match run [] e with
 | some [x] =>x
 | _=>.nil
theorem AN {e:List Tok} (he:e.length≤1048576):kt e=some (uV e):=by
 obtain ⟨o,eo,hq⟩:=cq (f:=nr e) (fun i s=> ∃st,s=(st,(i:Int))∧run [] (e.take i)=some st) (fun o=>(o= .ret Tr.nil∧run [] e=none)∨ ∃st,o= .brk (st,(e.length:Int))∧run [] e=some st) e.length (s:=([],0)) (by
  rintro i s hi ⟨st,rfl,hst⟩
  have hl:=Ku hst
  simp only[List.length_nil,List.length_take] at hl
  unfold nr
  simp only[ez]
  by_cases c:i<e.length
  ·rw[if_pos (by simp;omega),aw (by omega) (by omega)];simp only[Option.bind_some]
   have hr:=sf (nth e (i:Int))
   by_cases c1:ar (nth e (i:Int))<0
   ·obtain ⟨n,hn⟩:=QU (nth e (i:Int))
    rw[hn];simp only[Option.bind_some]
    rw[Sw];simp only[Option.bind_some]
    refine .inr ⟨_,by rw[if_neg (by simp;omega)],(fun s' e=>by cases e),.inl ⟨rfl,vp c hst ?_⟩⟩
    rw[stp,if_pos (.inl c1)]
   ·rw[T2 (by omega)];simp only[Option.bind_some]
    rw[Sw];simp only[Option.bind_some]
    rw[if_pos (by simp;omega),dC (n:=(st.length:Int) - ar (nth e (i:Int))) (by omega) (by omega)]
    by_cases c2:ar (nth e (i:Int))>(st.length:Int)
    ·refine .inr ⟨_,by rw[if_pos (by simp;omega)],(fun s' e=>by cases e),.inl ⟨rfl,vp c hst ?_⟩⟩
     rw[stp,if_pos (.inr c2)]
    ·rw[if_neg (by simp;omega),show∀p:Prop,∀ [Decidable p],p→chk p=some () from fun p _ hp=>by unfold chk;rw[if_pos hp]]
     ·simp only[Option.bind_some]
      have e1:((st.length:Int) - ar (nth e (i:Int))).toNat=st.length - (ar (nth e (i:Int))).toNat:=by omega
      rw[e1,az (by simp;omega)];simp only[Option.bind_some]
      rw[az (by simp;omega)];simp only[Option.bind_some,List.nil_append,ae (show i<9223372036854775807 by omega)]
      refine .inl ⟨c,_,rfl,_,rfl,?_⟩
      rw[xp c,sg,hst]
      show stp st _=_
      rw[stp,if_neg (by omega)]
     ·omega
  ·obtain rfl:i=e.length:=by omega
   rw[List.take_of_length_le (by omega)] at hst
   exact .inr ⟨_,by rw[if_neg (by simp)],(fun s' e=>by cases e),.inr ⟨st,rfl,hst⟩⟩) ⟨[],rfl,rfl⟩ (q9 (by omega))
 unfold kt
 rcases hq with ⟨rfl,h⟩ | ⟨st,rfl,h⟩
 ·rw[bR eo];unfold uV;rw[h]
 ·rw[aj eo];unfold uV;rw[h]
  match st with
  | [] =>rfl
  | [x] =>rfl
  | _::_::_ =>
   simp only
   rw[if_pos (by simp;omega)]
theorem tu {x:Tr Tok} (h:WT x):uV (flat x)=x:=by unfold uV;rw[Nr h];rfl
theorem Nt {e:List Tok} (he:e.length≤1048576):pH e=some (isX e):=by
 unfold pH
 rw[AN he];simp only[Option.bind_some]
 congr 1
 by_cases h:isX e=true
 ·rw[h]
  obtain ⟨x,h1,h2,h3⟩:=Kt h
  have:uV e=x:=by unfold uV;rw[h1]
  rw[this]
  cases h2 with
  | node _ _=>rfl
 ·have:uV e= .nil:=by
   unfold uV
   unfold isX at h
   split
   ·rename_i x hx;rw[hx] at h;exact absurd rfl h
   ·rfl
  rw[this,Bool.eq_false_iff.2 h];rfl
theorem Ee {e:List Tok} (he:e.length≤1048576):ir e=some (decide (e.length≤24)&&isX e):=by
 unfold ir
 rw[Ns he]
 by_cases c:e.length≤24
 ·rw[if_pos (by simp;omega)];simp[c]
 ·rw[if_neg (by simp;omega)];simp[c]
theorem Ef {e:List Tok} (he:e.length≤1048576):iA e=some (decide (e.length≤24)&&isX e):=by
 unfold iA
 rw[Nt he]
 by_cases c:e.length≤24
 ·rw[if_pos (by simp;omega)];simp[c]
 ·rw[if_neg (by simp;omega)];simp[c]
theorem j8 {p:Prop} [Decidable p] (h:p):chk p=some ():=by unfold chk;rw[if_pos h]
theorem QV {A:List Tok} {x:Tr Tok} (hx:WT x) (hl:(A++flat x).length≤1000000):fq (A++flat x)=some (A.length:Int):=by
 obtain ⟨s',e,ks,q1,q2,q3⟩: ∃s',ai (jn (A++flat x)) aN (1,((A++flat x).length:Int))=some (.brk s')∧ ∃ks:List (Tr Tok),ks= [] ∧s'.2=(A.length:Int)∧True:=by
  obtain ⟨o,eo,hq⟩:=cq (f:=jn (A++flat x)) (fun i s=> ∃ks:List (Tr Tok),(∀k,k∈ks→WT k)∧s=((ks.length:Int),(((A++gI ks).length:Nat):Int))∧i+(gI ks).length=(flat x).length∧(A++flat x).take (A++gI ks).length=A++gI ks) (fun o=> ∃s',o= .brk s'∧s'.2=(A.length:Int)) (flat x).length (s:=(1,((A++flat x).length:Int))) (by
   rintro i s hi ⟨ks,hw,rfl,hlen,htk⟩
   unfold jn
   simp only[ez]
   rcases List.eq_nil_or_concat ks with rfl | ⟨ks',y,rfl⟩
   ·refine .inr ⟨_,by rw[if_neg (by simp)],(fun s' e=>by cases e),_,rfl,?_⟩
    simp[gI]
   ·have hy:=hw y (by simp)
    cases hy with
    | @node t cs h1 h2 =>
     have hfl:gI (ks'++ [.node t cs])=gI (ks'++cs)++ [t]:=by rw[mP,jR,flat,mP,List.append_assoc]
     rw[List.concat_eq_append,hfl] at hlen htk⊢
     simp only[List.length_append,List.length_cons,List.length_nil] at hlen htk hl⊢
     rw[if_pos (by simp <;> omega)]
     have hpos:IntKind.i64.wrap (((A.length+((gI (ks'++cs)).length+1):Nat):Int) - 1)=((A.length+(gI (ks'++cs)).length:Nat):Int):=by
      rw[dC (by omega) (by omega)];omega
     have hget:nth (A++flat x) ((A.length+(gI (ks'++cs)).length:Nat):Int)=t:=by
      have hlt:A.length+(gI (ks'++cs)).length<(A++flat x).length:=by rw[List.length_append];omega
      have e1:=congrArg (fun l:List Tok=>l[A.length+(gI (ks'++cs)).length]?) htk
      rw[List.getElem?_take_of_lt (by omega),List.getElem?_eq_getElem hlt,←List.append_assoc,List.getElem?_append_right (by rw[List.length_append];omega),List.length_append] at e1
      rw[bG hlt]
      simpa using e1
     rw[hpos,aw (by omega) (by simp only[List.length_append];omega),hget];simp only[Option.bind_some]
     rw[UK,h1];simp only[Option.bind_some]
     have hcl:(cs.length:Int)≤2:=by rw[←h1];exact (sf t).2
     have hkl:ks'.length≤(gI (ks'++cs)).length+1000000:=by
      have: ∀l:List (Tr Tok),(∀k,k∈l→WT k)→l.length≤(gI l).length:=by
       intro l
       induction l with
       | nil=>intro _;simp
       | cons k l ih =>
        intro h
        have h1:=(h k (by simp)).pos
        have h2:=ih fun k hk=>h k (by simp[hk])
        rw[gI];simp only[List.length_cons,List.length_append];omega
      have:=this ks' fun k hk=>hw k (by simp[hk])
      rw[mP,List.length_append];omega
     refine .inl ⟨by omega,_,rfl,ks'++cs,fun k hk=>?_,?_,by omega,?_⟩
     ·rcases List.mem_append.1 hk with hk | hk
      ·exact hw k (by simp[hk])
      ·exact h2 k hk
     ·rw[dC (n:=((ks'.length+1:Nat):Int) - 1) (by omega) (by omega),dC (by omega) (by omega)]
      congr 1
      (simp only[List.length_append]) <;> omega
     ·have e1:=congrArg (List.take (A++gI (ks'++cs)).length) htk
      rw[List.take_take,Nat.min_eq_left (by rw[List.length_append];omega),←List.append_assoc,List.take_left] at e1
      rw[List.length_append] at e1
      exact e1) ⟨[x],fun k hk=>by (obtain rfl:=List.mem_singleton.1 hk;exact hx),by rw[jR];rfl,by rw[jR];omega,by rw[jR,List.take_length]⟩ (q9 (by rw[List.length_append] at hl;omega))
  obtain ⟨s',rfl,h2⟩:=hq
  exact ⟨s',eo,[],rfl,h2,trivial⟩
 unfold fq
 rw[aj e,q2]
end D
namespace D
open Go.RowKit
instance trInh {α:Type} :Inhabited (Tr α):=⟨.nil⟩
def szX:Tr Tok→Int
 | .nil=>0
 | .node t ks=>min (szL t 1 ks) 100000
where szL (t:Tok) (acc:Int):List (Tr Tok)→Int
 | [] =>acc
 | k::ks=>szL t (acc+(if t.1=7 then (szX k+3)*t.2.2.2 else szX k)) ks
theorem dA {x:Tr Tok} (h:WT x):1≤szX x∧szX x≤100000:=by
 refine WT.ind (p:=fun x=>1≤szX x∧szX x≤100000) ?_ ?_ ?_ h
 ·intro t _
  show 1≤min (1:Int) 100000∧min (1:Int) 100000≤100000
  omega
 ·intro t a e _ ih
  show 1≤min ((1:Int)+(if t.1=7 then (szX a+3)*t.2.2.2 else szX a)) 100000∧min ((1:Int)+(if t.1=7 then (szX a+3)*t.2.2.2 else szX a)) 100000≤100000
  split
  ·rename_i k
   have hr:=xo (show 0≤ar t by omega) k
   have:0≤(szX a+3)*t.2.2.2:=Int.mul_nonneg (by omega) (by omega)
   omega
  ·omega
 ·intro t a b e _ _ iha ihb
  have k:t.1≠7:=by
   rcases k9 (show 0≤ar t by omega) with ⟨_,k⟩ | ⟨k,_⟩ | ⟨k,_⟩ <;> omega
  show 1≤min ((1:Int)+(if t.1=7 then (szX a+3)*t.2.2.2 else szX a)+(if t.1=7 then (szX b+3)*t.2.2.2 else szX b)) 100000∧min ((1:Int)+(if t.1=7 then (szX a+3)*t.2.2.2 else szX a)+(if t.1=7 then (szX b+3)*t.2.2.2 else szX b)) 100000≤100000
  rw[if_neg k,if_neg k]
  omega
theorem CH {a h:Int} (h1:1≤a∧a≤100000) (h2:1≤h∧h≤3):IntKind.i64.wrap ((IntKind.i64.wrap (a+3))*h)=(a+3)*h:=by
 rw[dC (n:=a+3) (by omega) (by omega)]
 have k1:0≤(a+3)*h:=Int.mul_nonneg (by omega) (by omega)
 have k2:(a+3)*h≤100003*3:=Int.mul_le_mul (by omega) (by omega) (by omega) (by omega)
 exact dC (by omega) (by omega)
theorem Kv {a h:Int} (h1:1≤a∧a≤100000) (h2:1≤h∧h≤3):0≤(a+3)*h∧(a+3)*h≤300009:=by
 have k1:0≤(a+3)*h:=Int.mul_nonneg (by omega) (by omega)
 have k2:(a+3)*h≤100003*3:=Int.mul_le_mul (by omega) (by omega) (by omega) (by omega)
 omega
theorem mQ {t:Tok} {ks:List (Tr Tok)} :Tr.get (.node t ks)=some (t,ks):=rfl
theorem tv {f:Tr Tok→Option Int} {t:Tok} {ks:List (Tr Tok)} {i:Nat} {acc:Int} (hi:i<ks.length) (hf:f (nth ks (i:Int))=some (szX (nth ks (i:Int)))) (hw:WT (nth ks (i:Int))) (ht:0≤ar t) (ha:0≤acc∧acc≤1000000) (hik:i≤1000000) :
  aW f (.node t ks) (t,ks) (acc,(i:Int))=some (.nxt (acc+(if t.1=7 then (szX (nth ks (i:Int))+3)*t.2.2.2 else szX (nth ks (i:Int))),((i+1:Nat):Int))):=by
 unfold aW
 simp only[mQ]
 have hr:=dA hw
 rw[if_pos (by simp <;> omega),aw (by omega) (by omega)];simp only[Option.bind_some]
 by_cases k:t.1=7
 ·have h7:=xo ht k
  have hm:=Kv hr h7.2
  rw[if_pos (by simpa using k),if_pos k,hf];simp only[Option.bind_some]
  rw[CH hr h7.2,dC (by omega) (by omega),ae (by omega)]
 ·rw[if_neg (by simpa using k),if_neg k,hf];simp only[Option.bind_some]
  rw[dC (by omega) (by omega),ae (by omega)]
theorem vq {α:Type} [Inhabited α] {a:α} {l:List α} :nth (a::l) ((0:Nat):Int)=a:=rfl
theorem Kw {α:Type} [Inhabited α] {a b:α} {l:List α} :nth (a::b::l) ((1:Nat):Int)=b:=rfl
theorem QW {x:Tr Tok} (h:WT x): ∀n,(flat x).length≤n→bf n x=some (szX x):=by
 refine WT.ind (p:=fun x=> ∀n,(flat x).length≤n→bf n x=some (szX x)) ?_ ?_ ?_ h
 ·intro t e n hn
  rw[yi] at hn
  match n,hn with
  | n+1,_ =>
   rw[bf];simp only[mQ,Option.bind_some]
   have hL:ai (aW (bf n) (.node t []) (t,[])) aN (1,0)=some (.brk (1,0)):=bg (f:=aW (bf n) (.node t []) (t,[])) (fun i=>(1,(i:Int))) 0 (fun i hi=>by omega) (by unfold aW;simp) (by unfold aN;omega)
   rw[aj hL]
   all_goals rfl
 ·intro t a e wa ih n hn
  rw[AL,List.length_append] at hn
  match n,hn with
  | n+1,hn =>
   have hr:=dA wa
   rw[bf];simp only[mQ,Option.bind_some]
   have hL:ai (aW (bf n) (.node t [a]) (t,[a])) aN (1,0)=some (.brk (szX.szL t 1 [a],1)):=bg (f:=aW (bf n) (.node t [a]) (t,[a])) (fun i=>(szX.szL t 1 ([a].take i),(i:Int))) 1 (fun i hi=>by
    obtain rfl:i=0:=by omega
    exact tv (acc:=1) (i:=0) (by simp) (ih n (by simp at hn;omega)) wa (by omega) (by omega) (by omega)) (by unfold aW;simp) (by unfold aN;omega)
   rw[aj hL]
   all_goals rfl
 ·intro t a b e wa wb iha ihb n hn
  rw[qX,List.length_append,List.length_append] at hn
  match n,hn with
  | n+1,hn =>
   have hra:=dA wa
   have hrb:=dA wb
   have k:t.1≠7:=by
    rcases k9 (show 0≤ar t by omega) with ⟨_,k⟩ | ⟨k,_⟩ | ⟨k,_⟩ <;> omega
   rw[bf];simp only[mQ,Option.bind_some]
   have hL:ai (aW (bf n) (.node t [a,b]) (t,[a,b])) aN (1,0)=some (.brk (szX.szL t 1 [a,b],2)):=bg (f:=aW (bf n) (.node t [a,b]) (t,[a,b])) (fun i=>(szX.szL t 1 ([a,b].take i),(i:Int))) 2 (fun i hi=>by
    have:i=0∨i=1:=by omega
    rcases this with rfl | rfl
    ·exact tv (acc:=1) (i:=0) (by simp) (iha n (by simp at hn;omega)) wa (by omega) (by omega) (by omega)
    ·exact tv (acc:=1+(if t.1=7 then (szX a+3)*t.2.2.2 else szX a)) (i:=1) (by simp) (ihb n (by simp at hn;omega)) wb (by omega) (by rw[if_neg k];omega) (by omega)) (by unfold aW;simp) (by unfold aN;omega)
   rw[aj hL]
   all_goals rfl
theorem kq {A:List Tok} {t:Tok} (h:A.length≤1000000):aF (A++ [t]) (IntKind.i64.wrap (((A++ [t]).length:Int) - 1))=some t∧IntKind.i64.wrap (((A++ [t]).length:Int) - 1)=(A.length:Int):=by
 have e:IntKind.i64.wrap (((A++ [t]).length:Int) - 1)=(A.length:Int):=by
  rw[dC (by simp only[List.length_append,List.length_cons,List.length_nil];omega) (by simp only[List.length_append,List.length_cons,List.length_nil];omega)]
  simp only[List.length_append,List.length_cons,List.length_nil];omega
 refine ⟨?_,e⟩
 rw[e,aw (by omega) (by simp only[List.length_append,List.length_cons,List.length_nil];omega),bG (by simp)]
 simp
theorem UL {t:Tok} (h:ar t=2):(if t.1==4 then (some (t.1==4)) else (some (t.1==5)):Option Bool)=some true:=by
 rcases k9 (show 0≤ar t by omega) with ⟨_,k | k⟩ | ⟨e,_⟩ | ⟨e,_⟩
 ·simp[k]
 ·simp[k]
 ·omega
 ·omega
theorem Nu {t:Tok} (h:ar t=1∨ar t=0):(if t.1==4 then (some (t.1==4)) else (some (t.1==5)):Option Bool)=some false:=by
 rcases k9 (show 0≤ar t by omega) with ⟨e,k⟩ | ⟨e,k | k⟩ | ⟨e,k | k | k⟩
 ·omega
 all_goals simp[k]
theorem Sx {t:Tok} (h:ar t=0):(t.1==6)=false∧(t.1==7)=false:=by
 rcases k9 (show 0≤ar t by omega) with ⟨e,k⟩ | ⟨e,k | k⟩ | ⟨e,k | k | k⟩
 ·omega
 ·omega
 ·omega
 all_goals simp[k]
theorem Nv {t:Tok} (h:ar t=1):((t.1==6)=true∧t.1=6)∨((t.1==6)=false∧(t.1==7)=true∧t.1=7):=by
 rcases k9 (show 0≤ar t by omega) with ⟨e,k⟩ | ⟨e,k | k⟩ | ⟨e,k | k | k⟩
 ·omega
 ·left;simp[k]
 ·right;simp[k]
 all_goals omega
theorem xq {a b:Tr Tok} {t:Tok} (wb:WT b) (hl:((flat a++flat b)++ [t]).length≤1000000) :
  (((flat a++flat b)++ [t]).take ((((flat a++flat b).length:Nat):Int)).toNat)=flat a++flat b ∧
  fq (flat a++flat b)=some (((flat a).length:Nat):Int) ∧
  (((flat a++flat b)++ [t]).take ((((flat a).length:Nat):Int)).toNat)=flat a ∧
  (flat a++flat b).drop ((((flat a).length:Nat):Int)).toNat=flat b:=by
 refine ⟨?_,QV wb (by simp only[List.length_append,List.length_cons,List.length_nil] at hl⊢;omega),?_,?_⟩
 ·rw[Int.toNat_natCast,List.take_left]
 ·rw[Int.toNat_natCast,List.append_assoc,List.take_left]
 ·rw[Int.toNat_natCast,List.drop_left]
theorem Sy {x:Tr Tok} (h:WT x): ∀n,(flat x).length≤n→(flat x).length≤1000000→cT n (flat x)=some (szX x):=by
 refine WT.ind (p:=fun x=> ∀n,(flat x).length≤n→(flat x).length≤1000000→cT n (flat x)=some (szX x)) ?_ ?_ ?_ h
 ·intro t e n hn hl
  rw[yi] at hn hl⊢
  match n,hn with
  | n+1,_ =>
   have hk:=Sx e
   rw[cT]
   have:=(kq (A:=[]) (t:=t) (by simp)).1
   rw[List.nil_append] at this
   rw[this];simp only[Option.bind_some]
   rw[Nu (.inr e)];simp only[Option.bind_some,hk.1,hk.2,Bool.false_eq_true,if_false]
   rfl
 ·intro t a e wa ih n hn hl
  rw[AL] at hn hl⊢
  simp only[List.length_append,List.length_cons,List.length_nil] at hn hl
  match n,hn with
  | n+1,hn =>
   have hr:=dA wa
   rw[cT]
   obtain ⟨l1,l2⟩:=kq (A:=flat a) (t:=t) (by omega)
   rw[l1];simp only[Option.bind_some]
   rw[Nu (.inl e)];simp only[Option.bind_some,Bool.false_eq_true,if_false]
   rw[l2,Int.toNat_natCast,List.take_left,j8 (by simp only[List.length_append,List.length_cons,List.length_nil];omega)];simp only[Option.bind_some]
   rw[ih n (by omega) (by omega)];simp only[Option.bind_some]
   rcases Nv e with ⟨k1,k2⟩ | ⟨k1,k2,k3⟩
   ·rw[if_pos k1,dC (by omega) (by omega)]
    show some (min 100000 (szX a+1))=some (min ((1:Int)+(if t.1=7 then (szX a+3)*t.2.2.2 else szX a)) 100000)
    rw[if_neg (by omega)]
    congr 1;omega
   ·have h7:=xo (show 0≤ar t by omega) k3
    have hm:=Kv hr h7.2
    rw[if_neg (by simp[k1]),if_pos k2,CH hr h7.2,dC (by omega) (by omega)]
    show some (min 100000 ((szX a+3)*t.2.2.2+1))=some (min ((1:Int)+(if t.1=7 then (szX a+3)*t.2.2.2 else szX a)) 100000)
    rw[if_pos k3]
    congr 1;omega
 ·intro t a b e wa wb iha ihb n hn hl
  rw[qX] at hn hl⊢
  obtain ⟨p1,p2,p3,p4⟩:=xq (a:=a) (t:=t) wb hl
  simp only[List.length_append,List.length_cons,List.length_nil] at hn hl
  match n,hn with
  | n+1,hn =>
   have hra:=dA wa
   have hrb:=dA wb
   have k:t.1≠7:=by
    rcases k9 (show 0≤ar t by omega) with ⟨_,k⟩ | ⟨k,_⟩ | ⟨k,_⟩ <;> omega
   rw[cT]
   obtain ⟨l1,l2⟩:=kq (A:=flat a++flat b) (t:=t) (by rw[List.length_append];omega)
   rw[l1];simp only[Option.bind_some]
   rw[UL e];simp only[Option.bind_some,if_true]
   rw[l2,p1,p2,j8 (by simp only[List.length_append,List.length_cons,List.length_nil];omega)];simp only[Option.bind_some]
   rw[j8 (by simp only[List.length_append,List.length_cons,List.length_nil];omega),p3,p4];simp only[Option.bind_some]
   rw[iha n (by omega) (by omega),j8 (by simp only[List.length_append,List.length_cons,List.length_nil];omega)];simp only[Option.bind_some]
   rw[ihb n (by have:=wa.pos;omega) (by omega)];simp only[Option.bind_some]
   rw[dC (n:=szX a+szX b) (by omega) (by omega),dC (by omega) (by omega)]
   show some (min 100000 (szX a+szX b+1))=some (min ((1:Int)+(if t.1=7 then (szX a+3)*t.2.2.2 else szX a)+(if t.1=7 then (szX b+3)*t.2.2.2 else szX b)) 100000)
   rw[if_neg k,if_neg k]
   congr 1;omega
def Nw:Tr Tok:=.node (2,0,0,0) []
def Eg (x:Tr Tok):Nat→Int→Tr Tok
 | 0,_=>Nw
 | h+1,low=>if 0<low then .node (4,0,0,0) [x,Eg x h (max 0 (low - 1))] else .node (5,0,0,0) [.node (4,0,0,0) [x,Eg x h (max 0 (low - 1))],Nw]
mutual
def oo:Tr Tok→Tr Tok
 | .nil=>.nil
 | .node t ks=>if t.1=7 then Eg ((K6 ks).headD .nil) t.2.2.2.toNat t.2.2.1 else .node t (K6 ks)
def K6:List (Tr Tok)→List (Tr Tok)
 | [] =>[]
 | k::ks=>oo k::K6 ks
end
theorem ar4:ar (4,0,0,0)=2:=by decide
theorem ar5:ar (5,0,0,0)=2:=by decide
theorem ar2:ar (2,0,0,0)=0:=by decide
theorem Kx:WT Nw:=.node ar2 fun k hk=>by cases hk
theorem si:flat Nw= [(2,0,0,0)]:=yi _
theorem WT.two {t:Tok} {a b:Tr Tok} (h:ar t=2) (ha:WT a) (hb:WT b):WT (.node t [a,b]):=.node h fun k hk=>by
 rcases List.mem_cons.1 hk with rfl | hk
 ·exact ha
 ·obtain rfl:=List.mem_singleton.1 hk
  exact hb
theorem WT.one {t:Tok} {a:Tr Tok} (h:ar t=1) (ha:WT a):WT (.node t [a]):=.node h fun k hk=>by
 obtain rfl:=List.mem_singleton.1 hk
 exact ha
theorem Eh {x:Tr Tok} (hx:WT x): ∀(h:Nat) (low:Int),WT (Eg x h low)
 | 0,_=>Kx
 | h+1,low=>by
  rw[Eg]
  split
  ·exact .two ar4 hx (Eh hx h _)
  ·exact .two ar5 (.two ar4 hx (Eh hx h _)) Kx
theorem AO (x:Tr Tok): ∀(h:Nat) (low:Int),(flat (Eg x h low)).length≤((flat x).length+3)*h+1
 | 0,_=>by rw[Eg,si];simp
 | h+1,low=>by
  have ih:=AO x h (max 0 (low - 1))
  rw[Eg]
  split
  ·rw[qX];simp only[List.length_append,List.length_cons,List.length_nil]
   rw[Nat.mul_succ];omega
  ·rw[qX,qX,si];simp only[List.length_append,List.length_cons,List.length_nil]
   rw[Nat.mul_succ];omega
theorem Tk {t:Tok} {a:Tr Tok} :oo (.node t [a])=if t.1=7 then Eg (oo a) t.2.2.2.toNat t.2.2.1 else .node t [oo a]:=by rw[oo,K6,K6];rfl
theorem exp2 {t:Tok} {a b:Tr Tok} (h:t.1≠7):oo (.node t [a,b])= .node t [oo a,oo b]:=by rw[oo,if_neg h,K6,K6,K6]
theorem Tl {t:Tok} (h:t.1≠7):oo (.node t [])= .node t []:=by rw[oo,if_neg h,K6]
theorem no7 {t:Tok} (h:ar t=2∨ar t=0):t.1≠7:=by
 rcases k9 (show 0≤ar t by omega) with ⟨_,k⟩ | ⟨k,_⟩ | ⟨_,k⟩ <;> omega
theorem OO {x:Tr Tok} (h:WT x):WT (oo x):=by
 refine WT.ind (p:=fun x=>WT (oo x)) ?_ ?_ ?_ h
 ·intro t e
  rw[Tl (no7 (.inr e))]
  exact .node e fun k hk=>by cases hk
 ·intro t a e _ ih
  rw[Tk]
  split
  ·exact Eh ih _ _
  ·exact .one e ih
 ·intro t a b e _ _ iha ihb
  rw[exp2 (no7 (.inl e))]
  exact .two e iha ihb
theorem AP {x:Tr Tok} (h:WT x):szX x<100000→((flat (oo x)).length:Int)≤szX x:=by
 refine WT.ind (p:=fun x=>szX x<100000→((flat (oo x)).length:Int)≤szX x) ?_ ?_ ?_ h
 ·intro t e _
  rw[Tl (no7 (.inr e)),yi]
  show (1:Int)≤min 1 100000
  omega
 ·intro t a e wa ih hs
  have hr:=dA wa
  have hs':min ((1:Int)+(if t.1=7 then (szX a+3)*t.2.2.2 else szX a)) 100000<100000:=hs
  show _≤min ((1:Int)+(if t.1=7 then (szX a+3)*t.2.2.2 else szX a)) 100000
  rw[Tk]
  by_cases k:t.1=7
  ·rw[if_pos k] at hs'⊢
   rw[if_pos k]
   have h7:=xo (show 0≤ar t by omega) k
   have hge:szX a+3≤(szX a+3)*t.2.2.2:=by
    have:=Int.mul_le_mul_of_nonneg_left (c:=szX a+3) h7.2.1 (by omega)
    omega
   have h1:=ih (by omega)
   have h2:=AO (oo a) t.2.2.2.toNat t.2.2.1
   have h3:(((flat (oo a)).length+3)*t.2.2.2.toNat:Int)≤(szX a+3)*t.2.2.2:=by
    rw[Int.toNat_of_nonneg (by omega)]
    exact Int.mul_le_mul_of_nonneg_right (by omega) (by omega)
   have h4:((flat (Eg (oo a) t.2.2.2.toNat t.2.2.1)).length:Int)≤(((flat (oo a)).length+3)*t.2.2.2.toNat:Int)+1:=by exact_mod_cast h2
   omega
  ·rw[if_neg k] at hs'⊢
   rw[if_neg k,AL]
   have h1:=ih (by omega)
   simp only[List.length_append,List.length_cons,List.length_nil]
   omega
 ·intro t a b e wa wb iha ihb hs
  have hra:=dA wa
  have hrb:=dA wb
  have k:=no7 (.inl e)
  have hs':min ((1:Int)+(if t.1=7 then (szX a+3)*t.2.2.2 else szX a)+(if t.1=7 then (szX b+3)*t.2.2.2 else szX b)) 100000<100000:=hs
  show _≤min ((1:Int)+(if t.1=7 then (szX a+3)*t.2.2.2 else szX a)+(if t.1=7 then (szX b+3)*t.2.2.2 else szX b)) 100000
  rw[if_neg k,if_neg k] at hs'⊢
  rw[exp2 k,qX]
  have h1:=iha (by omega)
  have h2:=ihb (by omega)
  simp only[List.length_append,List.length_cons,List.length_nil]
  omega
theorem zh {x:Tr Tok} : ∀(h n:Nat) (low:Int),h<n→h≤3→0≤low→low≤3→gO n x low (h:Int)=some (Eg x h low)
 | 0,n+1,low,_,_,_,_=>by
  rw[gO,if_pos (by rfl)];rfl
 | h+1,n+1,low,h1,h2,h3,h4=>by
  rw[gO,if_neg (by simp;omega),dC (n:=low - 1) (by omega) (by omega),dC (n:=((h+1:Nat):Int) - 1) (by omega) (by omega)]
  rw[show ((h+1:Nat):Int) - 1=(h:Int) from by omega,zh h n (max 0 (low - 1)) (by omega) (by omega) (by omega) (by omega)];simp only[Option.bind_some]
  rw[Eg]
  by_cases c:0<low
  ·rw[if_pos (by simpa using c),if_pos c]
  ·rw[if_neg (by simpa using c),if_neg c];rfl
theorem FI {a b:List Tok} {t:Tok} (h:a.length+b.length≤1000000):iY a b t=some ((a++b)++ [t]):=by
 unfold iY iX
 rw[az (by simp only[List.length_append,List.length_cons,List.length_nil];omega)];simp only[Option.bind_some,List.nil_append]
 rw[az (by omega)];simp only[Option.bind_some]
 rw[az (by simp only[List.length_append,List.length_cons,List.length_nil];omega)];rfl
theorem Ky {x:Tr Tok} : ∀(h n:Nat) (low:Int),h<n→h≤3→0≤low→low≤3→(flat x).length≤100000→gK n (flat x) low (h:Int)=some (flat (Eg x h low))
 | 0,n+1,low,_,_,_,_,_=>by
  rw[gK,if_pos (by rfl),Eg,si];rfl
 | h+1,n+1,low,h1,h2,h3,h4,h5=>by
  rw[gK,if_neg (by simp;omega),dC (n:=low - 1) (by omega) (by omega),dC (n:=((h+1:Nat):Int) - 1) (by omega) (by omega)]
  rw[show ((h+1:Nat):Int) - 1=(h:Int) from by omega,Ky h n (max 0 (low - 1)) (by omega) (by omega) (by omega) (by omega) h5];simp only[Option.bind_some]
  have hl:=AO x h (max 0 (low - 1))
  have hl3:((flat x).length+3)*h≤100003*3:=Nat.mul_le_mul (by omega) (by omega)
  rw[FI (by omega),Eg];simp only[Option.bind_some]
  by_cases c:0<low
  ·rw[if_pos (by simpa using c),if_pos c,qX]
  ·rw[if_neg (by simpa using c),if_neg c,qX,qX,si]
   show (mf 2).bind _=_
   unfold mf;simp only[Option.bind_some]
   rw[FI (by simp only[List.length_append,List.length_cons,List.length_nil];omega)];rfl
theorem sj:1000000000000≤eU:=by rw[Ll];unfold aN;omega
theorem Nx {x:Tr Tok} (h:WT x): ∀n,(flat x).length≤n→aS n x=some (oo x):=by
 have hF:=sj
 refine WT.ind (p:=fun x=> ∀n,(flat x).length≤n→aS n x=some (oo x)) ?_ ?_ ?_ h
 ·intro t e n hn
  rw[yi] at hn
  have k:=no7 (.inr e)
  match n,hn with
  | n+1,_ =>
   rw[aS];simp only[mQ,Option.bind_some]
   rw[if_neg (by simpa using k),Tl k]
   have hL:ai (aO (aS n) (t,[])) aN (0,t.1,t.2.1,t.2.2.1,t.2.2.2,[])=some (.brk (0,t.1,t.2.1,t.2.2.1,t.2.2.2,[])):=bg (f:=aO (aS n) (t,[])) (fun i=>((i:Int),t.1,t.2.1,t.2.2.1,t.2.2.2,K6 (([] :List (Tr Tok)).take i))) 0 (fun i hi=>by omega) (by unfold aO;simp) (by unfold aN;omega)
   rw[aj hL]
   all_goals rfl
 ·intro t a e wa ih n hn
  rw[AL,List.length_append] at hn
  match n,hn with
  | n+1,hn =>
   have ia:=ih n (by simp at hn;omega)
   rw[aS,Tk];simp only[mQ,Option.bind_some]
   rcases Nv e with ⟨k1,k2⟩ | ⟨k1,k2,k3⟩
   ·rw[if_neg (by simp;omega),if_neg (by omega)]
    have hL:ai (aO (aS n) (t,[a])) aN (0,t.1,t.2.1,t.2.2.1,t.2.2.2,[])=some (.brk (1,t.1,t.2.1,t.2.2.1,t.2.2.2,[oo a])):=bg (f:=aO (aS n) (t,[a])) (fun i=>((i:Int),t.1,t.2.1,t.2.2.1,t.2.2.2,[oo a].take i)) 1 (fun i hi=>by
     obtain rfl:i=0:=by omega
     unfold aO
     simp only
     rw[if_pos (by simp),aw (by omega) (by simp),vq];simp only[Option.bind_some]
     rw[ia];simp only[Option.bind_some]
     rw[az (by simp)];rfl) (by unfold aO;simp) (by unfold aN;omega)
    rw[aj hL]
    all_goals rfl
   ·have h7:=xo (show 0≤ar t by omega) k3
    rw[if_pos k2,if_pos k3,show aF [a] 0=some a from rfl];simp only[Option.bind_some]
    rw[ia];simp only[Option.bind_some]
    have:=zh (x:=oo a) t.2.2.2.toNat eU t.2.2.1 (by omega) (by omega) (by omega) (by omega)
    rw[Int.toNat_of_nonneg (by omega)] at this
    rw[this];rfl
 ·intro t a b e wa wb iha ihb n hn
  rw[qX,List.length_append,List.length_append] at hn
  have k:=no7 (.inl e)
  match n,hn with
  | n+1,hn =>
   have ia:=iha n (by simp at hn;omega)
   have ib:=ihb n (by simp at hn;omega)
   rw[aS,exp2 k];simp only[mQ,Option.bind_some]
   rw[if_neg (by simpa using k)]
   have hL:ai (aO (aS n) (t,[a,b])) aN (0,t.1,t.2.1,t.2.2.1,t.2.2.2,[])=some (.brk (2,t.1,t.2.1,t.2.2.1,t.2.2.2,[oo a,oo b])):=bg (f:=aO (aS n) (t,[a,b])) (fun i=>((i:Int),t.1,t.2.1,t.2.2.1,t.2.2.2,[oo a,oo b].take i)) 2 (fun i hi=>by
    have:i=0∨i=1:=by omega
    rcases this with rfl | rfl
    ·unfold aO
     simp only
     rw[if_pos (by simp),aw (by omega) (by simp),vq];simp only[Option.bind_some]
     rw[ia];simp only[Option.bind_some]
     rw[az (by simp)];rfl
    ·unfold aO
     simp only
     rw[if_pos (by simp),aw (by omega) (by simp),Kw];simp only[Option.bind_some]
     rw[ib];simp only[Option.bind_some]
     rw[az (by simp)];rfl) (by unfold aO;simp) (by unfold aN;omega)
   rw[aj hL]
   all_goals rfl
theorem Kz {x:Tr Tok} (h:WT x): ∀n out,(flat x).length≤n→out.length+(flat x).length≤1000000→aQ n x out=some (out++flat x):=by
 refine WT.ind (p:=fun x=> ∀n out,(flat x).length≤n→out.length+(flat x).length≤1000000→aQ n x out=some (out++flat x)) ?_ ?_ ?_ h
 ·intro t e n out hn hl
  rw[yi] at hn hl⊢
  simp only[List.length_cons,List.length_nil] at hl
  match n,hn with
  | n+1,_ =>
   rw[aQ];simp only[mQ,Option.bind_some]
   have hL:ai (aK (aQ n) (t,[])) aN (0,out)=some (.brk (0,out)):=bg (f:=aK (aQ n) (t,[])) (fun i=>((i:Int),out)) 0 (fun i hi=>by omega) (by unfold aK;simp) (by unfold aN;omega)
   rw[aj hL]
   simp only
   rw[az (by simp;omega)];rfl
 ·intro t a e wa ih n out hn hl
  rw[AL] at hn hl⊢
  simp only[List.length_append,List.length_cons,List.length_nil] at hn hl
  match n,hn with
  | n+1,hn =>
   rw[aQ];simp only[mQ,Option.bind_some]
   have hL:ai (aK (aQ n) (t,[a])) aN (0,out)=some (.brk (1,out++flat a)):=bg (f:=aK (aQ n) (t,[a])) (fun i=>((i:Int),if i=0 then out else out++flat a)) 1 (fun i hi=>by
    obtain rfl:i=0:=by omega
    unfold aK
    simp only
    rw[if_pos (by simp),aw (by omega) (by simp),vq];simp only[Option.bind_some,if_true]
    rw[ih n _ (by omega) (by omega)];rfl) (by unfold aK;simp) (by unfold aN;omega)
   rw[aj hL]
   simp only
   rw[az (by simp;omega)];simp
 ·intro t a b e wa wb iha ihb n out hn hl
  rw[qX] at hn hl⊢
  simp only[List.length_append,List.length_cons,List.length_nil] at hn hl
  match n,hn with
  | n+1,hn =>
   rw[aQ];simp only[mQ,Option.bind_some]
   have hL:ai (aK (aQ n) (t,[a,b])) aN (0,out)=some (.brk (2,(out++flat a)++flat b)):=bg (f:=aK (aQ n) (t,[a,b])) (fun i=>((i:Int),if i=0 then out else if i=1 then out++flat a else (out++flat a)++flat b)) 2 (fun i hi=>by
    have:i=0∨i=1:=by omega
    rcases this with rfl | rfl
    ·unfold aK
     simp only
     rw[if_pos (by simp),aw (by omega) (by simp),vq];simp only[Option.bind_some,if_true]
     rw[iha n _ (by omega) (by omega)];rfl
    ·unfold aK
     simp only
     rw[if_pos (by simp),aw (by omega) (by simp),Kw];simp only[Option.bind_some,if_true]
     rw[ihb n _ (by omega) (by simp;omega)];rfl) (by unfold aK;simp) (by unfold aN;omega)
   rw[aj hL]
   simp only
   rw[az (by simp;omega)];simp
theorem Ny {x:Tr Tok} (h:WT x): ∀n,(flat x).length≤n→(flat x).length≤1000000→szX x≤50000→bW n (flat x)=some (flat (oo x)):=by
 have hF:=sj
 refine WT.ind (p:=fun x=> ∀n,(flat x).length≤n→(flat x).length≤1000000→szX x≤50000→bW n (flat x)=some (flat (oo x))) ?_ ?_ ?_ h
 ·intro t e n hn hl hs
  rw[yi] at hn hl⊢
  match n,hn with
  | n+1,_ =>
   have hk:=Sx e
   rw[bW]
   have:=(kq (A:=[]) (t:=t) (by simp)).1
   rw[List.nil_append] at this
   rw[this];simp only[Option.bind_some]
   rw[Nu (.inr e)];simp only[Option.bind_some,hk.1,hk.2,Bool.false_eq_true,if_false]
   rw[Tl (no7 (.inr e)),yi]
 ·intro t a e wa ih n hn hl hs
  have hs':min ((1:Int)+(if t.1=7 then (szX a+3)*t.2.2.2 else szX a)) 100000≤50000:=hs
  rw[AL] at hn hl⊢
  simp only[List.length_append,List.length_cons,List.length_nil] at hn hl
  match n,hn with
  | n+1,hn =>
   have hr:=dA wa
   have hsa:szX a≤50000:=by
    by_cases k:t.1=7
    ·rw[if_pos k] at hs'
     have h7:=xo (show 0≤ar t by omega) k
     have hge:szX a+3≤(szX a+3)*t.2.2.2:=by
      have:=Int.mul_le_mul_of_nonneg_left (c:=szX a+3) h7.2.1 (by omega)
      omega
     omega
    ·rw[if_neg k] at hs';omega
   have hla:=AP wa (by omega)
   rw[bW]
   obtain ⟨l1,l2⟩:=kq (A:=flat a) (t:=t) (by omega)
   rw[l1];simp only[Option.bind_some]
   rw[Nu (.inl e)];simp only[Option.bind_some,Bool.false_eq_true,if_false]
   rw[l2,Int.toNat_natCast,List.take_left,j8 (by simp only[List.length_append,List.length_cons,List.length_nil];omega)];simp only[Option.bind_some]
   rw[ih n (by omega) (by omega) hsa,Tk];simp only[Option.bind_some]
   rcases Nv e with ⟨k1,k2⟩ | ⟨k1,k2,k3⟩
   ·rw[if_pos k1,if_neg (by omega),FI (by simp;omega),AL];simp
   ·have h7:=xo (show 0≤ar t by omega) k3
    rw[if_neg (by simp[k1]),if_pos k2,if_pos k3]
    have:=Ky (x:=oo a) t.2.2.2.toNat eU t.2.2.1 (by omega) (by omega) (by omega) (by omega) (by omega)
    rw[Int.toNat_of_nonneg (by omega)] at this
    rw[this];rfl
 ·intro t a b e wa wb iha ihb n hn hl hs
  have k:=no7 (.inl e)
  have hs':min ((1:Int)+(if t.1=7 then (szX a+3)*t.2.2.2 else szX a)+(if t.1=7 then (szX b+3)*t.2.2.2 else szX b)) 100000≤50000:=hs
  rw[if_neg k,if_neg k] at hs'
  rw[qX] at hn hl⊢
  obtain ⟨p1,p2,p3,p4⟩:=xq (a:=a) (t:=t) wb hl
  simp only[List.length_append,List.length_cons,List.length_nil] at hn hl
  match n,hn with
  | n+1,hn =>
   have hra:=dA wa
   have hrb:=dA wb
   have hla:=AP wa (by omega)
   have hlb:=AP wb (by omega)
   rw[bW]
   obtain ⟨l1,l2⟩:=kq (A:=flat a++flat b) (t:=t) (by rw[List.length_append];omega)
   rw[l1];simp only[Option.bind_some]
   rw[UL e];simp only[Option.bind_some,if_true]
   rw[l2,p1,p2,j8 (by simp only[List.length_append,List.length_cons,List.length_nil];omega)];simp only[Option.bind_some]
   rw[j8 (by simp only[List.length_append,List.length_cons,List.length_nil];omega),p3,p4];simp only[Option.bind_some]
   rw[iha n (by omega) (by omega) (by omega),j8 (by simp only[List.length_append,List.length_cons,List.length_nil];omega)];simp only[Option.bind_some]
   rw[ihb n (by have:=wa.pos;omega) (by omega) (by omega)];simp only[Option.bind_some]
   rw[FI (by omega),exp2 k,qX];rfl
def Hh (e:List Tok):List Tok×Bool:=
 if decide (e.length≤24)&&isX e then (if 5000<szX (uV e) then ([],false) else (if 400<(flat (oo (uV e))).length then ([],false) else (flat (oo (uV e)),true))) else ([],false)
theorem Ei {e:List Tok} (he:e.length≤1048576):jo e=some (Hh e)∧jy e=some (Hh e):=by
 have hF:=sj
 unfold jo jy Hh
 rw[Ee he,Ef he];simp only[Option.bind_some]
 by_cases c:(decide (e.length≤24)&&isX e)=true
 ·rw[if_pos c,if_pos c,if_pos c,AN he];simp only[Option.bind_some]
  rw[Bool.and_eq_true] at c
  obtain ⟨x,h1,hw,rfl⟩:=Kt c.2
  have h24:(flat x).length≤24:=by simpa using c.1
  have hr:=dA hw
  rw[tu hw,Sy hw eU (by omega) (by omega),QW hw eU (by omega)];simp only[Option.bind_some]
  by_cases c2:5000<szX x
  ·have c2':decide (szX x>5000)=true:=by simpa using c2
   simp only[gt_iff_lt,c2,decide_true,if_true,and_self]
  ·have c2':decide (szX x>5000)=false:=by simpa using c2
   simp only[gt_iff_lt,c2,decide_false,if_false,Bool.false_eq_true]
   have hl:=AP hw (by omega)
   rw[Ny hw eU (by omega) (by omega) (by omega),Nx hw eU (by omega)];simp only[Option.bind_some]
   unfold nt
   rw[Kz (OO hw) eU [] (by omega) (by simp;omega)];simp only[Option.bind_some,List.nil_append]
   by_cases c3:400<(flat (oo x)).length
   ·have c3':decide (((flat (oo x)).length:Int)>400)=true:=decide_eq_true (by omega)
    simp only[c3',c3,decide_true,if_true,and_self]
   ·have c3':decide (((flat (oo x)).length:Int)>400)=false:=decide_eq_false (by omega)
    simp only[c3',c3,decide_false,if_false,Bool.false_eq_true,and_self]
 ·rw[if_neg c,if_neg c,if_neg c];exact ⟨rfl,rfl⟩
theorem QX {e:List Tok} (h:(Hh e).2=true): ∃y,WT y∧(Hh e).1=flat y∧(flat y).length≤400:=by
 unfold Hh at h⊢
 split at h
 ·rename_i c
  rw[if_pos c]
  rw[Bool.and_eq_true] at c
  obtain ⟨x,h1,hw,rfl⟩:=Kt c.2
  rw[tu hw] at h⊢
  split at h
  ·cases h
  ·rename_i c2
   rw[if_neg c2]
   split at h
   ·cases h
   ·rename_i c3
    rw[if_neg c3]
    exact ⟨_,OO hw,rfl,by omega⟩
 ·cases h
end D
namespace D
open Go.RowKit
def KB (out:List Bool) (t:Int):Bool:=decide (t≥0)&&nth out t
def hit (out:List Bool) (row:List Int):Bool:=row.any (KB out)
def ur (a:AutT) (out:List Bool) (s:Nat):List Bool:=if hit out (nth a.2.2 s) then out.set s true else out
def gV (a:AutT) (out:List Bool):Nat→List Bool
 | 0=>out
 | s+1=>ur a (gV a out s) s
def cnt (out:List Bool):Nat:=out.count true
theorem Sz (out:List Bool):cnt out≤out.length:=List.count_le_length
theorem FJ {out:List Bool} {s:Nat} (h:s<out.length) (k:out[s] =true):out.set s true=out:=by
 refine List.ext_getElem (by simp) fun i h1 h2=>?_
 rw[List.getElem_set]
 split
 ·rename_i e;subst e;exact k.symm
 ·rfl
theorem QY {out:List Bool} {s:Nat} (h:s<out.length) (k:out[s] =false):cnt (out.set s true)=cnt out+1:=by
 unfold cnt
 rw[List.count_set h];simp[k]
section
variable {a:AutT} {n:Nat}
theorem AQ (a:AutT) (out:List Bool) (s:Nat):(ur a out s).length=out.length:=by unfold ur;split <;> simp
theorem iM (a:AutT) (out:List Bool): ∀s,(gV a out s).length=out.length
 | 0=>rfl
 | s+1=>by rw[gV,AQ,iM a out s]
theorem uu {out:List Bool} {s:Nat} (h:s<out.length):(ur a out s=out∧ ¬(hit out (nth a.2.2 s)=true∧nth out s=false))∨(cnt (ur a out s)=cnt out+1∧hit out (nth a.2.2 s)=true∧nth out s=false):=by
 unfold ur
 rw[bG h]
 cases hh:hit out (nth a.2.2 s) with
 | false=>exact .inl ⟨by simp,by simp⟩
 | true =>
  cases hk:out[s] with
  | true=>exact .inl ⟨by simp[FJ h hk],by simp⟩
  | false=>exact .inr ⟨by simp[QY h hk],rfl,rfl⟩
theorem tw {out:List Bool} : ∀s,s≤out.length→(gV a out s=out∧cnt (gV a out s)=cnt out)∨cnt out<cnt (gV a out s)
 | 0,_=>.inl ⟨rfl,rfl⟩
 | s+1,hs=>by
  have hl:s<(gV a out s).length:=by rw[iM];omega
  have ih:=tw (out:=out) s (by omega)
  rw[gV]
  rcases uu (a:=a) hl with ⟨e,-⟩ | ⟨e,-,-⟩
  ·rw[e];exact ih
  ·rcases ih with ⟨-,h2⟩ | h
   ·exact .inr (by omega)
   ·exact .inr (by omega)
def it (a:AutT):Nat→List Bool
 | 0=>a.2.1
 | j+1=>gV a (it a j) a.2.1.length
theorem mR (a:AutT): ∀j,(it a j).length=a.2.1.length
 | 0=>rfl
 | j+1=>by rw[it,iM,mR a j]
theorem OP (a:AutT) (j:Nat):cnt (it a j)≤a.2.1.length:=by rw[←mR a j];exact Sz _
theorem Ej (a:AutT) (j:Nat):(it a (j+1)=it a j)∨cnt (it a j)<cnt (it a (j+1)):=by
 rcases tw (a:=a) (out:=it a j) a.2.1.length (by rw[mR];exact Nat.le_refl _) with h | h
 ·exact .inl h.1
 ·exact .inr h
theorem OQ {j k:Nat} (h:it a (j+1)=it a j) (hk:j≤k):it a k=it a j:=by
 induction hk with
 | refl=>rfl
 | step _ ih=>rw[it,ih];exact h
theorem KD {j k:Nat} (h:it a (j+1)=it a j) (h':it a (k+1)=it a k):it a j=it a k:=by
 rcases Nat.le_total j k with e | e
 ·exact (OQ h e).symm
 ·exact OQ h' e
theorem QZ (a : AutT) : it a (a.2.1.length + 1) = it a a.2.1.length := by
  have key : ∀ j, it a (j + 1) = it a j ∨ j + 1 ≤ cnt (it a (j + 1)) := by
    intro j
    induction j with
    | zero => rcases Ej a 0 with h | h
              · exact .inl h
              · exact .inr (by omega)
    | succ j ih =>
      rcases Ej a (j + 1) with h | h
      · exact .inl h
      · rcases ih with h' | h'
        · left; rw [it, h']; exact h'
        · exact .inr (by omega)
  rcases key a.2.1.length with h | h
  · exact h
  · have := OP a (a.2.1.length + 1); omega
def live (a:AutT):List Bool:=it a a.2.1.length
theorem qY (a:AutT):(live a).length=a.2.1.length:=mR a _
theorem FK {α:Type} [Inhabited α] {row:List α} {p:α→Bool} {k:Nat} (h:k<row.length):(row.take (k+1)).any p=((row.take k).any p || p (nth row (k:Int))):=by
 rw[List.take_succ_eq_append_getElem h,List.any_append,bG h];simp
section
variable (V:VA a n) (hn:n≤1000000)
include V hn
theorem KE {out:List Bool} {s:Nat} (hs:s<n) (hl:out.length=n):ai (gg a (out,(s:Int))) aN (out,0)=some (.brk (ur a out s,9)):=by
 have hr:=V.rowAt (s:=s) (by omega) (by omega)
 have hls:s<out.length:=by omega
 have:=bg (f:=gg a (out,(s:Int))) (fun k=>(if ((nth a.2.2 (s:Int)).take k).any (KB out) then out.set s true else out,(k:Int))) 9 (fun k hk=>by
  unfold gg
  simp only
  rw[if_pos (by simp;omega),V.get (by omega) (by omega)];simp only[Option.bind_some]
  rw[V.get2 (by omega) (by omega) hk];simp only[Option.bind_some]
  rw[FK (by omega),show nth (nth a.2.2 (s:Int)) (k:Int)=mv a s k from rfl]
  simp only[ae (show k<9223372036854775807 by omega)]
  by_cases c:mv a s k≥0
  ·have hset:(out.set s true).length=n:=by simp[hl]
   have hm:=(V.mv (s:=s) (k:=k) (by omega) (by omega) hk).2
   rw[if_pos (by simpa using c)]
   by_cases q:((nth a.2.2 (s:Int)).take k).any (KB out)=true
   ·simp only[q,if_true,Bool.true_or]
    rw[aw c (by rw[hset];exact hm),aw (by omega) (by rw[hset];omega)];simp only[Option.bind_some,Int.toNat_natCast]
    split <;> simp
   ·simp only[q,Bool.false_eq_true,if_false,Bool.false_or,KB]
    rw[aw c (by rw[hl];exact hm),aw (by omega) (by rw[hl];omega)];simp only[Option.bind_some,Int.toNat_natCast]
    cases hc:nth out (mv a s k) <;> simp[hc,c]
  ·rw[if_neg (by simpa using c)]
   simp[KB,c]) (by unfold gg;simp) (by unfold aN;omega)
 have e9:(nth a.2.2 (s:Int)).take 9=nth a.2.2 (s:Int):=List.take_of_length_le (by omega)
 rw[e9] at this
 exact this
theorem CI {out:List Bool} (hl:out.length=n):ai (gh a) aN (out,0)=some (.brk (gV a out n,(n:Int))):=by
 have hlen:=V.len
 refine bg (f:=gh a) (fun s=>(gV a out s,(s:Int))) n (fun s hs=>?_) ?_ (q9 (by omega))
 ·unfold gh
  simp only
  rw[if_pos (by simp;omega),aj (KE V hn hs (by rw[iM];exact hl)),ae (by omega)]
  rfl
 ·unfold gh
  simp only
  rw[if_neg (by simp;omega)]
theorem OR:iZ a=some (live a):=by
 have hlen:=V.len
 unfold iZ
 rw[az (by simp;omega)];simp only[Option.bind_some,List.nil_append]
 have:=bg (f:=jr a) (fun j=>(it a j,(j:Int))) n (fun j hj=>by
  unfold jr
  simp only
  rw[if_pos (by simp;omega),aj (CI V hn (by rw[mR];exact hlen)),ae (by omega),it,hlen]) (by
  unfold jr
  simp only
  rw[if_neg (by simp;omega)]) (q9 (by omega))
 exact (aj this).trans (by simp[live,hlen])
theorem KF {out:List Bool} {g:Bool} {s:Nat} (hs:s<n) (hl:out.length=n):ai (cz (g,(s:Int),out) (nth a.2.2 (s:Int))) aN (g,0,out)=some (.brk (g || (hit out (nth a.2.2 (s:Int)) && !nth out (s:Int)),9,ur a out s)):=by
 have hr:=V.rowAt (s:=s) (by omega) (by omega)
 have hls:s<out.length:=by omega
 have:=bg (f:=cz (g,(s:Int),out) (nth a.2.2 (s:Int))) (fun k=>(g || (((nth a.2.2 (s:Int)).take k).any (KB out) && !nth out (s:Int)),(k:Int),if ((nth a.2.2 (s:Int)).take k).any (KB out) then out.set s true else out)) 9 (fun k hk=>by
  unfold cz
  simp only
  rw[if_pos (by simp[hr];omega),V.get2 (by omega) (by omega) hk];simp only[Option.bind_some]
  rw[FK (by omega),show nth (nth a.2.2 (s:Int)) (k:Int)=mv a s k from rfl]
  simp only[ae (show k<9223372036854775807 by omega)]
  by_cases c:mv a s k≥0
  ·have hset:(out.set s true).length=n:=by simp[hl]
   have hm:=(V.mv (s:=s) (k:=k) (by omega) (by omega) hk).2
   rw[if_pos (by simpa using c)]
   by_cases q:((nth a.2.2 (s:Int)).take k).any (KB out)=true
   ·simp only[q,if_true,Bool.true_or]
    have hself:nth (out.set s true) (s:Int)=true:=by
     have:=CA (xs:=out) (i:=(s:Int)) (x:=true) (by omega) (by omega)
     simpa using this
    rw[aw c (by rw[hset];exact hm),aw (by omega) (by rw[hset];omega)];simp only[Option.bind_some,Int.toNat_natCast,hself,if_true]
    split <;> simp
   ·simp only[q,Bool.false_eq_true,if_false,Bool.false_or,KB,Bool.false_and,Bool.or_false]
    rw[aw c (by rw[hl];exact hm),aw (by omega) (by rw[hl];omega)];simp only[Option.bind_some,Int.toNat_natCast]
    cases hc:nth out (mv a s k) with
    | false=>simp[c]
    | true =>
     cases hd:nth out (s:Int) with
     | false=>simp[c]
     | true =>
      rw[bG hls] at hd
      simp[c,FJ hls hd]
  ·rw[if_neg (by simpa using c)]
   simp[KB,c]) (by unfold cz;simp[hr]) (by unfold aN;omega)
 have e9:(nth a.2.2 (s:Int)).take 9=nth a.2.2 (s:Int):=List.take_of_length_le (by omega)
 rw[e9] at this
 have e0:(g || (((nth a.2.2 (s:Int)).take 0).any (KB out) && !nth out (s:Int)))=g:=by simp
 rw[e0] at this
 exact this
theorem CJ {out:List Bool} (hl:out.length=n): ∃g,ai (cA a) aN (false,0,out)=some (.brk (g,(n:Int),gV a out n))∧(g=true↔cnt out<cnt (gV a out n)):=by
 have hlen:=V.len
 have hnl:=V.nlen
 obtain ⟨s',e,⟨g,rfl,hg⟩⟩:=kZ (f:=cA a) (fun s st=> ∃g,st=(g,(s:Int),gV a out s)∧(g=true↔cnt out<cnt (gV a out s))) n (by
  rintro s st hs ⟨g,rfl,hg⟩
  have hpl:(gV a out s).length=n:=by rw[iM];exact hl
  unfold cA
  simp only
  rw[if_pos (by simp;omega),V.get (by omega) (by omega)];simp only[Option.bind_some]
  rw[aj (KF V hn hs hpl),ae (by omega)]
  refine ⟨_,rfl,_,rfl,?_⟩
  rw[Bool.or_eq_true,Bool.and_eq_true,Bool.not_eq_true',hg,gV]
  have hc:=tw (a:=a) (out:=out) s (by omega)
  rcases uu (a:=a) (out:=gV a out s) (s:=s) (by omega) with ⟨e,k⟩ | ⟨e,k⟩
  ·rw[e];exact ⟨fun h=>h.elim id fun h=>absurd h k,.inl⟩
  ·rw[e]
   exact ⟨fun _=>by rcases hc with ⟨-,h⟩ | h <;> omega,fun _=>.inr k⟩) (by
  rintro s ⟨g,rfl,hg⟩
  unfold cA
  simp only
  rw[if_neg (by simp;omega)]) ⟨false,rfl,by simp[gV]⟩ (q9 (by omega))
 exact ⟨g,e,hg⟩
theorem SA:dq a=some (live a):=by
 have hlen:=V.len
 unfold dq
 rw[az (by simp;omega)];simp only[Option.bind_some,List.nil_append]
 obtain ⟨o,e,i,rfl,hi⟩:=cq (f:=fD a) (fun i s=> ∃b,s=(b,it a i)∧(b=true→i≤cnt (it a i))∧(b=false→it a (i+1)=it a i)) (fun o=> ∃i,o= .brk (false,it a i)∧it a (i+1)=it a i) (n+1) (s:=(true,a.2.1)) (by
  rintro i s hi ⟨b,rfl,h1,h2⟩
  unfold fD
  simp only
  cases b with
  | false=>exact .inr ⟨_,by rw[if_neg (by simp)],(fun s' e=>by cases e),i,rfl,h2 rfl⟩
  | true =>
   have hc:=OP a i
   have h1:=h1 rfl
   obtain ⟨g,e,hg⟩:=CJ V hn (out:=it a i) (by rw[mR];exact hlen)
   have ee:gV a (it a i) n=it a (i+1):=by rw[it,hlen]
   rw[ee] at e hg
   refine .inl ⟨by omega,(g,it a (i+1)),by rw[if_pos rfl,aj e],g,rfl,fun h=>?_,fun h=>?_⟩
   ·have:=hg.1 h;omega
   ·have hs:it a (i+1)=it a i:=by
     rcases Ej a i with h' | h'
     ·exact h'
     ·rw[←hg,h] at h';cases h'
    rw[it,hs];exact hs) ⟨true,rfl,fun _=>Nat.zero_le _,fun h=>by cases h⟩ (q9 (by omega))
 rw[aj e]
 have:=KD hi (QZ a)
 simp[live,this]
end
end
end D
namespace D
open Go.RowKit
def nothing:AutT:=(0,[false],[[-1,-1,-1,-1,-1,-1,-1,-1,-1]])
theorem KG:lW=some nothing:=by kernel_rfl
theorem KH:qH=some nothing:=by kernel_rfl
theorem KI {n:Nat} (h:n≤1000000):iOk (n:Int)=true:=by
 have h1:IntKind.i64.min= -9223372036854775808:=by decide
 have h2:IntKind.i64.max=9223372036854775807:=by decide
 simp only[iOk,Lit.wf,h1,h2,Bool.and_eq_true,decide_eq_true_eq]
 omega
theorem take_one {α:Type} [Inhabited α] {xs:List α} {k:Nat} (h:k<xs.length):xs.take (k+1)=xs.take k++ [nth xs (k:Int)]:=by
 rw[List.take_succ_eq_append_getElem h,bG h]
theorem gW {α:Type} [Inhabited α] {xs ys:List α} (h:xs <+:ys) {i:Int} (h0:0≤i) (h1:i<xs.length):nth ys i=nth xs i:=by
 obtain ⟨t,rfl⟩:=h
 exact fI h0 h1
structure NumOk {κ:Type} [DecidableEq κ] (nx:κ→List (Option κ)) (first:κ) (G:κ→Prop) (B:Nat):Prop where
 g0:G first
 gn: ∀x,G x→ ∀y,some y∈nx x→G y
 len: ∀x,G x→(nx x).length=9
 bound: ∀l:List κ,l.Nodup→(∀x∈l,G x)→l.length≤B
section
variable {κ:Type} [DecidableEq κ] [Inhabited κ] {nx:κ→List (Option κ)} {first:κ} {G:κ→Prop} {B:Nat}
theorem NumOk.le (H:NumOk nx first G B) (i:Nat):(bfS nx first i).length≤B:=H.bound _ (k7 i) (iL H.g0 H.gn i)
theorem NumOk.at (H:NumOk nx first G B) {i:Nat} (h:i<(bfS nx first i).length):G (nth (bfS nx first i) (i:Int)):=iL H.g0 H.gn i _ (iK (by omega) (by omega))
theorem iN {i:Nat} (h:i<(bfS nx first i).length):bfS nx first (i+1)=nbS (bfS nx first i) (nx (nth (bfS nx first i) (i:Int))):=by rw[AA h,bG h]
theorem sk {i:Nat} (h:i<(bfS nx first i).length):bfR nx first (i+1)=bfR nx first i++ [nbR (bfS nx first i) (nx (nth (bfS nx first i) (i:Int)))]:=by rw[sb h,bG h]
theorem vr {β:Type} {acc:κ→β} {i:Nat} (h:i<(bfS nx first i).length):((bfS nx first (i+1)).take (i+1)).map acc=((bfS nx first i).take i).map acc++ [acc (nth (bfS nx first i) (i:Int))]:=by
 have hp:=be (nx:=nx) (first:=first) i
 have hl:=hp.length_le
 have e:(bfS nx first (i+1)).take i=(bfS nx first i).take i:=by
  obtain ⟨t,ht⟩:=hp
  rw[←ht,List.take_append_of_le_length (by omega)]
 rw[take_one (by omega),List.map_append,e,gW hp (by omega) (by omega)];rfl
def MapOf (M:List (κ×Int)) (l:List κ):Prop:=M.length=l.length∧ ∀x,M.lookup x=if x∈l then some (l.idxOf x:Int) else none
theorem MapOf.one (x:κ):MapOf [(x,0)] [x]:=by
 refine ⟨rfl,fun y=>?_⟩
 rw[List.lookup_cons]
 by_cases e:y=x
 ·subst e;simp
 ·simp only[show (y==x)=false from by simp[e]];simp[e]
theorem MapOf.put {M:List (κ×Int)} {l:List κ} (h:MapOf M l) {x:κ} (hx:x∉l):MapOf ((x,(l.length:Int))::M) (l++ [x]):=by
 refine ⟨by simp[h.1],fun y=>?_⟩
 rw[List.lookup_cons]
 by_cases e:y=x
 ·subst e
  simp[List.idxOf_append,hx]
 ·simp only[show (y==x)=false from by simp[e],h.2 y,List.mem_append,List.mem_singleton,e,or_false]
  by_cases k:y∈l
  ·simp[k,List.idxOf_append]
  ·simp[k]
end
section
variable {nx:Int→List (Option Int)} {first:Int} {G:Int→Prop} {B:Nat}
theorem CK {p3:Int→Int→Option (Int×Bool)} {l:List Int} {M:List (Int×Int)} {os:List (Option Int)} {acs:List Bool} {rws:List (List Int)} {i:Nat}
  (hi:i<l.length) (hos:os.length=9) (hM:MapOf M l) (hok: ∀y,some y∈os→iOk y=true) (hB: ∀k,(nbS l (os.take k)).length≤1000000)
  (hp: ∀(k:Nat) (hk:k<9),∃j,p3 (nth l (i:Int)) (k:Int)=some (match nth os (k:Int) with | some y=>(y,true) | none=>(j,false))) :
  ∃M',ai (cV p3 (l,M,(i:Int),0,acs,rws)) aN (l,M,[],0)=some (.brk (nbS l os,M',nbR l os,9))∧MapOf M' (nbS l os):=by
 obtain ⟨s',e,M',rfl,hM'⟩:=kZ (f:=cV p3 (l,M,(i:Int),0,acs,rws)) (fun k s=> ∃M',s=(nbS l (os.take k),M',nbR l (os.take k),(k:Int))∧MapOf M' (nbS l (os.take k))) 9 (by
  rintro k s hk ⟨M1,rfl,hM1⟩
  have hpre:=jh l (os.take k)
  have hlen:=hpre.length_le
  have hBk:=hB k
  obtain ⟨j,hj⟩:=hp k hk
  have hrl:(nbR l (os.take k)).length≤9:=by rw[dj,List.length_take];omega
  unfold cV
  simp only
  rw[if_pos (by simp;omega),aw (by omega) (by omega)];simp only[Option.bind_some]
  rw[gW hpre (by omega) (by omega),hj,take_one (by omega),sa,pN]
  simp only[Option.bind_some,ae (show k<9223372036854775807 by omega)]
  cases ho:nth os (k:Int) with
  | none =>
   simp only[Bool.false_eq_true,if_false]
   rw[az (by simp;omega)]
   exact ⟨_,rfl,M1,rfl,hM1⟩
  | some y =>
   have hy:iOk y=true:=hok y (ho ▸ iK (by omega) (by omega))
   simp only[if_true]
   rw[show chk (iOk y=true)=some () from by unfold chk;rw[if_pos hy]];simp only[Option.bind_some]
   rw[show lkM M1 y=_ from hM1.2 y]
   by_cases c:y∈nbS l (os.take k)
   ·simp only[c,if_true,Option.isSome_some,Option.getD_some,Option.bind_some]
    rw[az (by simp;omega)]
    exact ⟨_,rfl,M1,by rw[j4 c];rfl,by rw[j4 c];exact hM1⟩
   ·have hput:HM M1 iOk iOk y ((nbS l (os.take k)).length:Int)=some ((y,((nbS l (os.take k)).length:Int))::M1):=by
     unfold HM
     rw[if_pos ⟨by have:=hM1.1;omega,hy,KI hBk⟩]
    simp only[c,if_false,Option.isSome_none,Bool.false_eq_true,hput,Option.bind_some]
    rw[az (by simp;omega)];simp only[Option.bind_some]
    rw[az (by simp;omega)]
    refine ⟨_,rfl,(y,((nbS l (os.take k)).length:Int))::M1,?_,?_⟩
    ·rw[ji c];simp only[nbI,mO c]
    ·rw[ji c];exact hM1.put c) (by
  rintro s ⟨M1,rfl,hM1⟩
  unfold cV
  simp) (s:=(l,M,[],0)) ⟨M,rfl,hM⟩ (by unfold aN;omega)
 rw[List.take_of_length_le (by omega)] at e hM'
 exact ⟨M',e,hM'⟩
theorem SB {most:Int} {p2:Int→Option Bool} {p3:Int→Int→Option (Int×Bool)} {acc:Int→Bool} (H:NumOk nx first G B) (hB:B≤1000000) (hmost:(B:Int)≤most) (hok: ∀x,G x→iOk x=true)
  (h2: ∀x,G x→p2 x=some (acc x)) (h3: ∀x (k:Nat),G x→k<9→ ∃j,p3 x (k:Int)=some (match nth (nx x) (k:Int) with | some y=>(y,true) | none=>(j,false))) :
  ∃N,bfE nx first N∧di first most p2 p3=some ((0,(bfS nx first N).map acc,bfR nx first N),true):=by
 obtain ⟨N,hNB,hN⟩:=OA (nx:=nx) (first:=first) (H.le)
 refine ⟨N,hN,?_⟩
 unfold di
 rw[show HM ([] :List (Int×Int)) iOk iOk first 0=some [(first,0)] from by unfold HM;rw[if_pos ⟨by simp,hok _ H.g0,by decide⟩]];simp only[Option.bind_some]
 obtain ⟨s',e,M',rfl,hM'⟩:=kZ (f:=br most p2 p3) (fun i s=> ∃M,s=(bfS nx first i,M,(i:Int),0,((bfS nx first i).take i).map acc,bfR nx first i)∧MapOf M (bfS nx first i)) N (by
  rintro i s hi ⟨M,rfl,hM⟩
  have hlt:=hN.2 i hi
  have hG:=H.at hlt
  have hle:=H.le i
  have hle':=H.le (i+1)
  obtain ⟨M',e,hM'⟩:=CK (p3:=p3) (l:=bfS nx first i) (M:=M) (os:=nx (nth (bfS nx first i) (i:Int))) (acs:=((bfS nx first i).take i).map acc) (rws:=bfR nx first i) hlt (H.len _ hG) hM (fun y hy=>hok y (H.gn _ hG y hy))
   (fun k=>by
    have:(nbS (bfS nx first i) ((nx (nth (bfS nx first i) (i:Int))).take k)).length≤B:=H.bound _ (pe (k7 i)) fun x hx=>by
     rcases tm.1 hx with hx | hx
     ·exact iL H.g0 H.gn i x hx
     ·exact H.gn _ hG x (List.mem_of_mem_take hx)
    omega) (fun k hk=>h3 _ k hG hk)
  unfold br
  simp only
  rw[if_pos (by simp;omega),aj e,←iN hlt]
  rw[←iN hlt] at hM'
  have hl2:=(be (nx:=nx) (first:=first) i).length_le
  simp only
  rw[if_neg (by simp;omega),aw (by omega) (by omega)];simp only[Option.bind_some]
  rw[gW (be i) (by omega) (by omega),h2 _ hG];simp only[Option.bind_some]
  have hr:(bfR nx first i).length=i:=gU fun j hj=>hN.2 j (by omega)
  rw[az (by simp;omega)];simp only[Option.bind_some]
  rw[az (by simp;omega)];simp only[Option.bind_some,ae (show i<9223372036854775807 by omega)]
  exact ⟨_,rfl,M',by rw[vr hlt,sk hlt],hM'⟩) (by
  rintro s ⟨M,rfl,hM⟩
  unfold br
  simp only
  rw[if_neg (by have:=hN.1;simp;omega)]) (s:=([first],[(first,0)],0,0,[],[])) ⟨_,rfl,MapOf.one first⟩ (q9 (by omega))
 rw[aj e]
 simp only
 rw[List.take_of_length_le (by have:=hN.1;omega)]
end
theorem OS {l:List Int} {x:Int} (h:l.length≤9223372036854775807):kK l x=some (if x∈l then (l.idxOf x:Int) else -1):=by
 unfold kK
 obtain ⟨o,e,hq⟩:=cq (f:=lV l x) (fun i s=>s=(i:Int)∧x∉l.take i) (fun o=>(x∈l∧o= .ret (l.idxOf x:Int))∨(x∉l∧ ∃s,o= .brk s)) l.length (s:=0) (by
  rintro i s hi ⟨rfl,hx⟩
  unfold lV
  by_cases hl:i<l.length
  ·rw[if_pos (by simp;omega),aw (by omega) (by omega)];simp only[Option.bind_some]
   by_cases c:nth l (i:Int)=x
   ·refine .inr ⟨_,by rw[if_pos (by simpa using c)],(fun s' e=>by cases e),.inl ?_⟩
    have e:l=l.take i++(x::l.drop (i+1)):=by
     rw[←c,bG hl,←List.drop_eq_getElem_cons hl,List.take_append_drop]
    refine ⟨by rw[e];simp,?_⟩
    congr 1
    conv=>rhs;rw[e,List.idxOf_append,if_neg hx,List.idxOf_cons_self]
    simp[List.length_take];first | done | omega
   ·refine .inl ⟨hl,_,by rw[if_neg (by simpa using c)],by rw[ae (by omega)],?_⟩
    rw[take_one hl,List.mem_append,List.mem_singleton]
    rintro (h | h)
    ·exact hx h
    ·exact c h.symm
  ·refine .inr ⟨_,by rw[if_neg (by simp;omega)],(fun s' e=>by cases e),.inr ⟨?_,_,rfl⟩⟩
   rwa [List.take_of_length_le (by omega)] at hx) ⟨rfl,by simp⟩ (q9 h)
 rcases hq with ⟨hx,rfl⟩ | ⟨hx,s,rfl⟩
 ·rw[bR e,if_pos hx]
 ·rw[aj e,if_neg hx]
section
variable {a:AutT} {n:Nat} {c:List Int} {lv:List Bool} {nx:Int→List (Option Int)} {G:Int→Prop} {B:Nat} {acc:Int→Bool}
def good (n:Nat) (lv:List Bool) (r:Int):Prop:=0≤r∧r<n∧nth lv r=true
def tx (a:AutT) (c:List Int) (lv:List Bool) (r:Int):List (Option Int):=(List.range 9).map fun k=>if mv a r k≥0∧nth lv (mv a r k)=true then some (nth c (mv a r k)) else none
theorem FL {r:Int} {k:Nat} (hk:k<9):nth (tx a c lv r) (k:Int)=if mv a r k≥0∧nth lv (mv a r k)=true then some (nth c (mv a r k)) else none:=by
 have:k<(tx a c lv r).length:=by simp[tx];omega
 rw[bG this];simp[tx]
def RepsOf (n:Nat) (lv:List Bool) (c:List Int) (rs l:List Int):Prop:=rs.length=l.length∧ ∀j:Nat,j<l.length→good n lv (nth rs j)∧nth c (nth rs j)=nth l (j:Int)
theorem RepsOf.snoc {rs l:List Int} (h:RepsOf n lv c rs l) {t:Int} (ht:good n lv t):RepsOf n lv c (rs++ [t]) (l++ [nth c t]):=by
 refine ⟨by simp[h.1],fun j hj=>?_⟩
 by_cases e:j<l.length
 ·rw[fI (by omega) (by have:=h.1;omega),fI (by omega) (by omega)];exact h.2 j e
 ·have e:j=l.length:=by simp at hj;omega
  subst e
  have h1:nth (rs++ [t]) (l.length:Int)=t:=by rw[bG (by simp[h.1])];simp[←h.1]
  have h2:nth (l++ [nth c t]) (l.length:Int)=nth c t:=by rw[bG (by simp)];simp
  rw[h1,h2];exact ⟨ht,rfl⟩
theorem KJ (V:VA a n) (hn:n≤1000000) (hc:c.length=n) (hlv:lv.length=n) {l rs:List Int} {acs:List Bool} {rws:List (List Int)} {i:Nat} (hi:i<l.length) (hR:RepsOf n lv c rs l) {os:List (Option Int)} (hos:os.length=9)
  (ho: ∀r,good n lv r→nth c r=nth l (i:Int)→tx a c lv r=os) (hB: ∀k,(nbS l (os.take k)).length≤1000000) :
  ∃rs',ai (eX a c lv (l,rs,(i:Int),0,acs,rws)) aN (l,rs,[],0)=some (.brk (nbS l os,rs',nbR l os,9))∧RepsOf n lv c rs' (nbS l os):=by
 obtain ⟨s',e,rs',rfl,hR'⟩:=kZ (f:=eX a c lv (l,rs,(i:Int),0,acs,rws)) (fun k s=> ∃rs',s=(nbS l (os.take k),rs',nbR l (os.take k),(k:Int))∧RepsOf n lv c rs' (nbS l (os.take k))) 9 (by
  rintro k s hk ⟨r1,rfl,hR1⟩
  have hpre:=jh l (os.take k)
  have hlen:=hpre.length_le
  have hBk:=hB k
  have hrl:(nbR l (os.take k)).length≤9:=by rw[dj,List.length_take];omega
  have hr1:=hR1.1
  obtain ⟨⟨g0,g1,g2⟩,gc⟩:=hR1.2 i (by omega)
  rw[gW hpre (by omega) (by omega)] at gc
  have hsu:=ho _ ⟨g0,g1,g2⟩ gc
  have hok:nth os (k:Int)=if mv a (nth r1 (i:Int)) k≥0∧nth lv (mv a (nth r1 (i:Int)) k)=true then some (nth c (mv a (nth r1 (i:Int)) k)) else none:=by
   rw[←hsu];exact FL hk
  have hmv:=V.mv (s:=nth r1 (i:Int)) (k:=k) g0 g1 hk
  unfold eX
  simp only
  rw[if_pos (by simp;omega),aw (xs:=r1) (by omega) (by omega)];simp only[Option.bind_some]
  rw[V.get g0 g1];simp only[Option.bind_some]
  rw[V.get2 g0 g1 hk,take_one (by omega),sa,pN]
  simp only[Option.bind_some,ae (show k<9223372036854775807 by omega)]
  by_cases c1:mv a (nth r1 (i:Int)) k≥0
  ·rw[if_pos (by simpa using c1),aw (xs:=lv) c1 (by omega)];simp only[Option.bind_some]
   by_cases c2:nth lv (mv a (nth r1 (i:Int)) k)=true
   ·rw[if_pos ⟨c1,c2⟩] at hok
    rw[if_pos c2,aw (xs:=c) c1 (by omega),hok];simp only[Option.bind_some]
    rw[OS (by omega)];simp only[Option.bind_some]
    by_cases c3:nth c (mv a (nth r1 (i:Int)) k)∈nbS l (os.take k)
    ·rw[if_pos c3,if_neg (by simp)];simp only[Option.bind_some]
     rw[az (by simp;omega)]
     exact ⟨_,rfl,r1,by rw[j4 c3];rfl,by rw[j4 c3];exact hR1⟩
    ·rw[if_neg c3,if_pos (by decide)]
     rw[az (by simp;omega)];simp only[Option.bind_some]
     rw[az (by simp;omega)];simp only[Option.bind_some]
     rw[az (by simp;omega)];simp only[Option.bind_some]
     refine ⟨_,rfl,r1++ [mv a (nth r1 (i:Int)) k],?_,?_⟩
     ·rw[ji c3];simp only[nbI,mO c3]
     ·rw[ji c3];exact hR1.snoc ⟨c1,hmv.2,c2⟩
   ·rw[if_neg (fun h=>c2 h.2)] at hok
    rw[if_neg c2,hok];simp only[Option.bind_some]
    rw[az (by simp;omega)]
    exact ⟨_,rfl,r1,rfl,hR1⟩
  ·rw[if_neg (fun h=>c1 h.1)] at hok
   rw[if_neg (by simpa using c1),hok];simp only[Option.bind_some]
   rw[az (by simp;omega)]
   exact ⟨_,rfl,r1,rfl,hR1⟩) (by
  rintro s ⟨r1,rfl,hR1⟩
  unfold eX
  simp) (s:=(l,rs,[],0)) ⟨rs,rfl,hR⟩ (by unfold aN;omega)
 rw[List.take_of_length_le (by omega)] at e hR'
 exact ⟨rs',e,hR'⟩
theorem SC (V:VA a n) (hn:n≤1000000) (hc:c.length=n) (hlv:lv.length=n) (hs:nth lv a.1=true) (H:NumOk nx (nth c a.1) G B) (hB:B≤1000000)
  (hnx: ∀r,good n lv r→nx (nth c r)=tx a c lv r) (hacc: ∀r,good n lv r→acc (nth c r)=nth a.2.1 r) :
  ∃N,bfE nx (nth c a.1) N∧fO a c lv=some (0,(bfS nx (nth c a.1) N).map acc,bfR nx (nth c a.1) N):=by
 obtain ⟨N,hNB,hN⟩:=OA (nx:=nx) (first:=nth c a.1) (H.le)
 refine ⟨N,hN,?_⟩
 have hst:=V.start
 have hlen:=V.len
 unfold fO
 rw[aw hst.1 (by omega)];simp only[Option.bind_some]
 rw[if_pos hs,aw hst.1 (by omega)];simp only[Option.bind_some]
 obtain ⟨s',e,rs,rfl,hR⟩:=kZ (f:=gm a c lv) (fun i s=> ∃rs,s=(bfS nx (nth c a.1) i,rs,(i:Int),0,((bfS nx (nth c a.1) i).take i).map acc,bfR nx (nth c a.1) i)∧RepsOf n lv c rs (bfS nx (nth c a.1) i)) N (by
  rintro i s hi ⟨rs,rfl,hR⟩
  have hlt:=hN.2 i hi
  have hG:=H.at hlt
  have hle:=H.le i
  have hle':=H.le (i+1)
  obtain ⟨rs',e,hR'⟩:=KJ (acs:=((bfS nx (nth c a.1) i).take i).map acc) (rws:=bfR nx (nth c a.1) i) V hn hc hlv hlt hR (os:=nx (nth (bfS nx (nth c a.1) i) (i:Int))) (H.len _ hG) (fun r hr e=>by rw[←hnx r hr,e]) (fun k=>by
    have:(nbS (bfS nx (nth c a.1) i) ((nx (nth (bfS nx (nth c a.1) i) (i:Int))).take k)).length≤B:=H.bound _ (pe (k7 i)) fun x hx=>by
     rcases tm.1 hx with hx | hx
     ·exact iL H.g0 H.gn i x hx
     ·exact H.gn _ hG x (List.mem_of_mem_take hx)
    omega)
  unfold gm
  simp only
  rw[if_pos (by simp;omega),aj e]
  rw[←iN hlt] at hR'
  have hl2:=(be (nx:=nx) (first:=nth c a.1) i).length_le
  have hr1:=hR'.1
  obtain ⟨⟨g0,g1,g2⟩,gc⟩:=hR'.2 i (by omega)
  rw[gW (be i) (by omega) (by omega)] at gc
  rw[aw (xs:=rs') (by omega) (by omega)];simp only[Option.bind_some]
  rw[V.acc g0 g1,←hacc _ ⟨g0,g1,g2⟩,gc];simp only[Option.bind_some]
  have hr:(bfR nx (nth c a.1) i).length=i:=gU fun j hj=>hN.2 j (by omega)
  rw[az (by simp;omega)];simp only[Option.bind_some]
  rw[az (by simp;omega)];simp only[Option.bind_some,ae (show i<9223372036854775807 by omega)]
  exact ⟨_,rfl,rs',by rw[←iN hlt,vr hlt,sk hlt],hR'⟩) (by
  rintro s ⟨rs,rfl,hR⟩
  unfold gm
  simp only
  rw[if_neg (by have:=hN.1;simp;omega)]) (s:=([nth c a.1],[a.1],0,0,[],[])) ⟨[a.1],rfl,rfl,fun j hj=>by
   obtain rfl:j=0:=by simpa [bfS] using hj
   exact ⟨⟨hst.1,hst.2,hs⟩,rfl⟩⟩ (q9 (by omega))
 rw[aj e]
 simp only
 rw[List.take_of_length_le (by have:=hN.1;omega)]
theorem Ek (V:VA a n) (hlv:lv.length=n) (hs:nth lv a.1=false):fO a c lv=some nothing:=by
 have hst:=V.start
 unfold fO
 rw[aw hst.1 (by omega)];simp only[Option.bind_some]
 rw[hs,KG];rfl
end
end D
namespace D
open Go.RowKit
abbrev CR:=(List Int)×Int×Int×(List Int)×Bool
abbrev Nz (x:Int) (j:Nat):Bool:=(vx (pX x (j:Int)) 1)==1
def NA (F:List Int) (set m0:Int):Nat→Int
 | 0=>m0
 | i+1=>if Nz set (i+1) then orI (NA F set m0 i) (nth F (i:Int)) else NA F set m0 i
def pick (L:List Int) (m letter:Int):Nat→Int
 | 0=>0
 | i+1=>if nth L (i:Int)=letter∧Nz m i=true then orI (pick L m letter i) (Ev 1 ((i+1:Nat):Int)) else pick L m letter i
def aft (p:CR) (set letter:Int):Int:=pick p.1 (NA p.2.2.2.1 set (if (vx set 1)==1 then p.2.1 else 0) p.2.2.2.1.length) letter p.1.length
def sn (p:CR) (set:Int):Bool:=if (vx set 1)==1 then (if p.2.2.2.2 then true else (vx (pX set 1) p.2.2.1) !=0) else (vx (pX set 1) p.2.2.1) !=0
theorem pj (i:Nat):chk (0≤(i:Int))=some ():=by unfold chk;rw[if_pos (by omega)]
theorem Q0 {p:CR} {set letter:Int} (hl:p.2.2.2.1.length=p.1.length) (hb:p.1.length≤1000000):lA p set letter=some (aft p set letter):=by
 have h0: ∀m0,ai (fu p set) aN (m0,0)=some (.brk (NA p.2.2.2.1 set m0 p.1.length,(p.1.length:Int))):=fun m0 =>
  bg (f:=fu p set) (fun i=>(NA p.2.2.2.1 set m0 i,(i:Int))) p.1.length (fun i hi=>by
   unfold fu
   simp only
   rw[if_pos (by simp;omega),ae (by omega),pj];simp only[Option.bind_some]
   rw[NA]
   by_cases c:Nz set (i+1)=true
   ·rw[if_pos c,if_pos c,aw (by omega) (by omega)];rfl
   ·rw[if_neg c,if_neg c];rfl) (by unfold fu;simp) (q9 (by omega))
 have h1: ∀s7:Int×Int,ai (fv p letter s7) aN (0,0)=some (.brk (pick p.1 s7.1 letter p.1.length,(p.1.length:Int))):=fun s7 =>
  bg (f:=fv p letter s7) (fun i=>(pick p.1 s7.1 letter i,(i:Int))) p.1.length (fun i hi=>by
   unfold fv
   simp only
   rw[if_pos (by simp;omega),ae (by omega),pj,pj];simp only[Option.bind_some]
   rw[pick]
   by_cases c:Nz s7.1 i=true
   ·rw[if_pos c,aw (by omega) (by omega)];simp only[Option.bind_some]
    by_cases d:nth p.1 (i:Int)=letter
    ·rw[if_pos (by simpa using d),if_pos ⟨d,c⟩];rfl
    ·rw[if_neg (by simpa using d),if_neg (fun h=>d h.1)];rfl
   ·rw[if_neg c,if_neg (fun h=>c h.2)];rfl) (by unfold fv;simp) (q9 (by omega))
 unfold lA aft
 rw[hl]
 by_cases c:((vx set 1)==1)=true
 ·rw[if_pos c,if_pos c];simp only[Option.bind_some]
  rw[aj (h0 _),aj (h1 _)]
 ·rw[if_neg c,if_neg c];simp only[Option.bind_some]
  rw[aj (h0 _),aj (h1 _)]
theorem Q1 {p:CR} {set letter:Int} (hl:p.2.2.2.1.length=p.1.length) (hb:p.1.length≤1000000):eM p set letter=some (aft p set letter):=by
 have h0: ∀m0,ai (cd p set) aN (m0,0)=some (.brk (NA p.2.2.2.1 set m0 p.2.2.2.1.length,(p.2.2.2.1.length:Int))):=fun m0 =>
  bg (f:=cd p set) (fun i=>(NA p.2.2.2.1 set m0 i,(i:Int))) p.2.2.2.1.length (fun i hi=>by
   unfold cd
   simp only
   rw[if_pos (by simp;omega),aw (by omega) (by omega)];simp only[Option.bind_some]
   rw[ae (by omega),pj];simp only[Option.bind_some]
   rw[NA]
   by_cases c:Nz set (i+1)=true
   ·rw[if_pos c,if_pos c];rfl
   ·rw[if_neg c,if_neg c];rfl) (by unfold cd;simp) (q9 (by omega))
 have h1: ∀s7:Int×Int,ai (cf p letter s7) aN (0,0)=some (.brk (pick p.1 s7.1 letter p.1.length,(p.1.length:Int))):=fun s7 =>
  bg (f:=cf p letter s7) (fun i=>(pick p.1 s7.1 letter i,(i:Int))) p.1.length (fun i hi=>by
   unfold cf
   simp only
   rw[if_pos (by simp;omega),aw (by omega) (by omega)];simp only[Option.bind_some]
   rw[ae (by omega),pj,pj];simp only[Option.bind_some]
   rw[pick]
   by_cases d:nth p.1 (i:Int)=letter
   ·rw[if_pos (by simpa using d)]
    by_cases c:Nz s7.1 i=true
    ·rw[if_pos c,if_pos ⟨d,c⟩];rfl
    ·rw[if_neg c,if_neg (fun h=>c h.2)];rfl
   ·rw[if_neg (by simpa using d),if_neg (fun h=>d h.1)];rfl) (by unfold cf;simp) (q9 (by omega))
 unfold eM aft
 by_cases c:((vx set 1)==1)=true
 ·rw[if_pos c,if_pos c];simp only[Option.bind_some]
  rw[aj (h0 _),aj (h1 _)]
 ·rw[if_neg c,if_neg c];simp only[Option.bind_some]
  rw[aj (h0 _),aj (h1 _)]
theorem SD (p:CR) (x:Int):jq p x=some (sn p x):=by
 unfold jq sn
 split <;> (try split) <;> rfl
theorem SE (p:CR) (x:Int):cy p x=some (sn p x):=by
 unfold cy sn
 split <;> (try split) <;> rfl
theorem Hi (x:Int): -9223372036854775808≤IntKind.i64.wrap x∧IntKind.i64.wrap x≤9223372036854775807:=by
 simp only[IntKind.wrap,IntKind.bits,IntKind.signed,Bool.true_and]
 split <;> rename_i h <;> simp at h <;> omega
theorem Q2 (x:Int):iOk (IntKind.i64.wrap x)=true:=by
 have h1:IntKind.i64.min= -9223372036854775808:=by decide
 have h2:IntKind.i64.max=9223372036854775807:=by decide
 have h3:=Hi x
 simp only[iOk,Lit.wf,h1,h2,Bool.and_eq_true,decide_eq_true_eq]
 omega
theorem SF (m n:Int):iOk (orI m n)=true:=Q2 _
theorem KK (L:List Int) (m letter:Int): ∀i,iOk (pick L m letter i)=true
 | 0=>by unfold pick;decide
 | i+1=>by
  rw[pick]
  split
  ·exact SF _ _
  ·exact KK L m letter i
def nxS (p:CR) (x:Int):List (Option Int):=(List.range 9).map fun k:Nat=>if aft p x (k:Int)=0 then none else some (aft p x (k:Int))
theorem OT {p:CR} {x:Int} {k:Nat} (hk:k<9):nth (nxS p x) (k:Int)=if aft p x k=0 then none else some (aft p x k):=by
 have:k<(nxS p x).length:=by simp[nxS];omega
 rw[bG this];simp[nxS]
theorem AR (p:CR) (x:Int):(nxS p x).length=9:=by simp[nxS]
theorem SG {p:CR} {x y:Int} (h:some y∈nxS p x):iOk y=true:=by
 obtain ⟨k,hk,e⟩:=List.mem_map.1 h
 split at e
 ·cases e
 ·obtain rfl:=Option.some.inj e
  exact KK _ _ _ _
theorem KL {κ:Type} [DecidableEq κ] : ∀(l:List κ) (os:List (Option κ)),(nbS l os).length≤l.length+os.length
 | l,[] =>by simp[nbS]
 | l,o::os=>by
  have h:=KL (nbL l o) os
  have h2:(nbL l o).length≤l.length+1:=by
   cases o with
   | none=>simp[nbL]
   | some x=>unfold nbL;simp only;split <;> simp
  show (nbS (nbL l o) os).length≤_
  simp only[List.length_cons];omega
section
variable {κ:Type} [DecidableEq κ] (nx:κ→List (Option κ)) (first:κ) (acc:κ→Bool) (most:Nat)
def goM:Nat→Nat→AutT×Bool
 | 0,i=>((0,[],[]),false)
 | f+1,i=>if i<(bfS nx first i).length then (if (bfS nx first (i+1)).length>most then ((0,[],[]),false) else goM f (i+1)) else ((0,((bfS nx first i).take i).map acc,bfR nx first i),true)
end
section
variable {κ:Type} [DecidableEq κ] {nx:κ→List (Option κ)} {first:κ} {acc:κ→Bool} {most:Nat}
theorem AS {i:Nat} (h: ∀j,j<i→j<(bfS nx first j).length):i≤(bfS nx first i).length:=by
 cases i with
 | zero=>omega
 | succ i =>
  have h1:=h i (by omega)
  have h2:=(be (nx:=nx) (first:=first) i).length_le
  omega
theorem FM {S:Type} {f:S→Option (Out (AutT×Bool) S)} (hm:most≤1000000) (h1:1≤most) (st:Nat→S→Prop)
  (hs: ∀i s,st i s→(∀j,j<i→j<(bfS nx first j).length)→(bfS nx first i).length≤most→i<(bfS nx first i).length→((bfS nx first (i+1)).length>most→f s=some (.ret ((0,[],[]),false)))∧((bfS nx first (i+1)).length≤most→ ∃s',f s=some (.nxt s')∧st (i+1) s'))
  (he: ∀i s,st i s→ ¬i<(bfS nx first i).length→f s=some (.brk s)) {s:S} (h0:st 0 s) :
  (ai f aN s=some (.ret ((0,[],[]),false))∧goM nx first acc most (most+2) 0=((0,[],[]),false)) ∨
  ∃N s',ai f aN s=some (.brk s')∧st N s'∧bfE nx first N∧N≤most∧goM nx first acc most (most+2) 0=((0,(bfS nx first N).map acc,bfR nx first N),true):=by
 obtain ⟨o,e,hq⟩:=cq (f:=f) (fun i s=>st i s∧(∀j,j<i→j<(bfS nx first j).length)∧(bfS nx first i).length≤most∧goM nx first acc most (most+2) 0=goM nx first acc most (most+2 - i) i)
  (fun o=>(o= .ret ((0,[],[]),false)∧goM nx first acc most (most+2) 0=((0,[],[]),false))∨ ∃N s',o= .brk s'∧st N s'∧bfE nx first N∧N≤most∧goM nx first acc most (most+2) 0=((0,(bfS nx first N).map acc,bfR nx first N),true)) most (s:=s) (by
  rintro i s hi ⟨k1,k2,k3,k4⟩
  have hle:=AS k2
  rw[show most+2 - i=(most+1 - i)+1 from by omega] at k4
  have k5:goM nx first acc most (most+1 - i+1) i=if i<(bfS nx first i).length then (if (bfS nx first (i+1)).length>most then ((0,[],[]),false) else goM nx first acc most (most+1 - i) (i+1)) else ((0,((bfS nx first i).take i).map acc,bfR nx first i),true):=rfl
  rw[k5] at k4
  by_cases c:i<(bfS nx first i).length
  ·rw[if_pos c] at k4
   obtain ⟨q1,q2⟩:=hs i s k1 k2 k3 c
   by_cases d:(bfS nx first (i+1)).length>most
   ·rw[if_pos d] at k4
    exact .inr ⟨_,q1 d,(fun s' e=>by cases e),.inl ⟨rfl,k4⟩⟩
   ·rw[if_neg d] at k4
    obtain ⟨s',e,hs'⟩:=q2 (by omega)
    exact .inl ⟨by omega,s',e,hs',fun j hj=>(by
     by_cases ej:j=i
     ·subst ej;exact c
     ·exact k2 j (by omega)),by omega,by rw[k4];congr 1;omega⟩
  ·rw[if_neg c] at k4
   refine .inr ⟨_,he i s k1 c,(fun s' e=>by cases e),.inr ⟨i,s,rfl,k1,⟨by omega,k2⟩,hi,?_⟩⟩
   rw[k4,List.take_of_length_le (by omega)]) ⟨h0,fun j hj=>by omega,by simp[bfS];omega,rfl⟩ (q9 (by omega))
 rcases hq with ⟨rfl,h⟩ | ⟨N,s',rfl,h⟩
 ·exact .inl ⟨e,h⟩
 ·exact .inr ⟨N,s',e,h⟩
end
section
variable {p:CR} {most:Nat} (hl:p.2.2.2.1.length=p.1.length) (hb:p.1.length≤1000000) (hm:most≤900000) (h1:1≤most)
include hl hb hm h1
theorem T3:fC p most=some (goM (nxS p) 1 (sn p) most (most+2) 0):=by
 have hp3: ∀(l:List Int) (i k:Nat),k<9→ ∃j,(fun a0 a1=>cm a0 a1 (p.1,p.2.1,p.2.2.1,p.2.2.2.1,p.2.2.2.2)) (nth l (i:Int)) (k:Int)=some (match nth (nxS p (nth l (i:Int))) (k:Int) with | some y=>(y,true) | none=>(j,false)):=by
  intro l i k hk
  refine ⟨0,?_⟩
  show cm _ _ p=_
  unfold cm
  simp only[ez]
  rw[Q1 hl hb,OT hk];simp only[Option.bind_some]
  by_cases c:aft p (nth l (i:Int)) k=0
  ·rw[if_pos c];simp[c]
  ·rw[if_neg c];simp[c]
 unfold fC di
 rw[show HM ([] :List (Int×Int)) iOk iOk 1 0=some [(1,0)] from by unfold HM;rw[if_pos ⟨by simp,by decide,by decide⟩]];simp only[Option.bind_some]
 rcases FM (nx:=nxS p) (first:=1) (acc:=sn p) (most:=most) (f:=br most (fun a0=>cy (p.1,p.2.1,p.2.2.1,p.2.2.2.1,p.2.2.2.2) a0) (fun a0 a1=>cm a0 a1 (p.1,p.2.1,p.2.2.1,p.2.2.2.1,p.2.2.2.2)))
  (by omega) h1 (fun i s=> ∃M,s=(bfS (nxS p) 1 i,M,(i:Int),0,((bfS (nxS p) 1 i).take i).map (sn p),bfR (nxS p) 1 i)∧MapOf M (bfS (nxS p) 1 i)) (by
   rintro i s ⟨M,rfl,hM⟩ hj hle hlt
   have hil:=AS hj
   obtain ⟨M',e,hM'⟩:=CK (p3:=fun a0 a1=>cm a0 a1 (p.1,p.2.1,p.2.2.1,p.2.2.2.1,p.2.2.2.2)) (l:=bfS (nxS p) 1 i) (M:=M) (os:=nxS p (nth (bfS (nxS p) 1 i) (i:Int))) (acs:=((bfS (nxS p) 1 i).take i).map (sn p)) (rws:=bfR (nxS p) 1 i) hlt (AR _ _) hM (fun y hy=>SG hy)
    (fun k=>by
     have:=KL (bfS (nxS p) 1 i) ((nxS p (nth (bfS (nxS p) 1 i) (i:Int))).take k)
     have h9:=AR p (nth (bfS (nxS p) 1 i) (i:Int))
     rw[List.length_take] at this
     omega) (fun k hk=>hp3 _ i k hk)
   rw[←iN hlt] at hM'
   have hl2:=(be (nx:=nxS p) (first:=1) i).length_le
   constructor
   ·intro hgt
    unfold br
    simp only
    rw[if_pos (by simp;omega),aj e,←iN hlt]
    simp only
    rw[if_pos (by simp;omega)]
   ·intro hle2
    unfold br
    simp only
    rw[if_pos (by simp;omega),aj e,←iN hlt]
    simp only
    rw[if_neg (by simp;omega),aw (by omega) (by omega)];simp only[Option.bind_some]
    rw[gW (be i) (by omega) (by omega)]
    simp only[ez]
    rw[SE];simp only[Option.bind_some]
    have hr:(bfR (nxS p) 1 i).length=i:=gU hj
    rw[az (by simp;omega)];simp only[Option.bind_some]
    rw[az (by simp;omega)];simp only[Option.bind_some,ae (show i<9223372036854775807 by omega)]
    exact ⟨_,rfl,M',by rw[vr hlt,sk hlt],hM'⟩) (by
   rintro i s ⟨M,rfl,hM⟩ hn
   unfold br
   simp only
   rw[if_neg (by simp;omega)]) (s:=([1],[(1,0)],0,0,[],[])) ⟨_,rfl,MapOf.one 1⟩ with ⟨e,hg⟩ | ⟨N,s',e,⟨M,rfl,hM⟩,hN,hNm,hg⟩
 ·rw[bR e,hg];rfl
 ·rw[aj e,hg];simp only[Option.bind_some]
  rw[List.take_of_length_le (by have:=hN.1;omega)]
theorem NB {l:List Int} {acs:List Bool} {rws:List (List Int)} {i:Nat} (hi:i<l.length) (hle:l.length≤most) :
  ai (dQ p (l,(i:Int),0,acs,rws)) aN (l,[],0)=some (.brk (nbS l (nxS p (nth l (i:Int))),nbR l (nxS p (nth l (i:Int))),9)):=by
 have h9:=AR p (nth l (i:Int))
 have:=bg (f:=dQ p (l,(i:Int),0,acs,rws)) (fun k=>(nbS l ((nxS p (nth l (i:Int))).take k),nbR l ((nxS p (nth l (i:Int))).take k),(k:Int))) 9 (fun k hk=>by
  have hpre:=jh l ((nxS p (nth l (i:Int))).take k)
  have hlen:=hpre.length_le
  have hB:=KL l ((nxS p (nth l (i:Int))).take k)
  rw[List.length_take] at hB
  have hrl:(nbR l ((nxS p (nth l (i:Int))).take k)).length≤9:=by rw[dj,List.length_take];omega
  unfold dQ
  simp only[ez]
  rw[if_pos (by simp;omega),aw (by omega) (by omega)];simp only[Option.bind_some]
  rw[gW hpre (by omega) (by omega),Q0 hl hb];simp only[Option.bind_some]
  rw[take_one (by omega),sa,pN,OT hk]
  simp only[ae (show k<9223372036854775807 by omega)]
  by_cases c:aft p (nth l (i:Int)) k=0
  ·rw[if_pos c,if_neg (by simp[c])];simp only[Option.bind_some]
   rw[az (by simp;omega)];rfl
  ·rw[if_neg c,if_pos (by simpa using c),OS (by omega)];simp only[Option.bind_some]
   by_cases d:aft p (nth l (i:Int)) k∈nbS l ((nxS p (nth l (i:Int))).take k)
   ·rw[if_pos d,if_neg (by simp),j4 d];simp only[Option.bind_some]
    rw[az (by simp;omega)];rfl
   ·rw[if_neg d,if_pos (by decide),az (by simp;omega),ji d];simp only[Option.bind_some]
    rw[az (by simp;omega)];simp only[nbI,mO d,Option.bind_some]) (by
  unfold dQ
  simp) (by unfold aN;omega)
 have e9:(nxS p (nth l (i:Int))).take 9=nxS p (nth l (i:Int)):=List.take_of_length_le (by omega)
 rw[e9] at this
 exact this
theorem T4:gf p most=some (goM (nxS p) 1 (sn p) most (most+2) 0):=by
 unfold gf
 rcases FM (nx:=nxS p) (first:=1) (acc:=sn p) (most:=most) (f:=dR p most)
  (by omega) h1 (fun i s=>s=(bfS (nxS p) 1 i,(i:Int),0,((bfS (nxS p) 1 i).take i).map (sn p),bfR (nxS p) 1 i)) (by
   rintro i s rfl hj hle hlt
   have hil:=AS hj
   have e:=NB hl hb hm h1 (acs:=((bfS (nxS p) 1 i).take i).map (sn p)) (rws:=bfR (nxS p) 1 i) hlt hle
   have hl2:=(be (nx:=nxS p) (first:=1) i).length_le
   constructor
   ·intro hgt
    unfold dR
    simp only
    rw[if_pos (by simp;omega),aj e,←iN hlt]
    simp only
    rw[if_pos (by simp;omega)]
   ·intro hle2
    unfold dR
    simp only
    rw[if_pos (by simp;omega),aj e,←iN hlt]
    simp only
    rw[if_neg (by simp;omega),aw (by omega) (by omega)];simp only[Option.bind_some]
    rw[gW (be i) (by omega) (by omega)]
    simp only[ez]
    rw[SD];simp only[Option.bind_some]
    have hr:(bfR (nxS p) 1 i).length=i:=gU hj
    rw[az (by simp;omega)];simp only[Option.bind_some]
    rw[az (by simp;omega)];simp only[Option.bind_some,ae (show i<9223372036854775807 by omega)]
    exact ⟨_,rfl,by rw[vr hlt,sk hlt]⟩) (by
   rintro i s rfl hn
   unfold dR
   simp only
   rw[if_neg (by simp;omega)]) (s:=([1],0,0,[],[])) rfl with ⟨e,hg⟩ | ⟨N,s',e,rfl,hN,hNm,hg⟩
 ·rw[bR e,hg]
 ·rw[aj e,hg];simp only
  rw[List.take_of_length_le (by have:=hN.1;omega)]
end
end D
namespace D
open Go.RowKit
theorem NC (m n:Int):orI m n=orI n m:=by unfold orI;rw[BitVec.or_comm]
def lk (F:List Int) (from_ to_:Int):Nat→List Int
 | 0=>F
 | i+1=>if Nz from_ i then (lk F from_ to_ i).set i (orI (nth (lk F from_ to_ i) (i:Int)) to_) else lk F from_ to_ i
theorem xr (F:List Int) (f t:Int): ∀i,(lk F f t i).length=F.length
 | 0=>rfl
 | i+1=>by
  rw[lk]
  split
  ·rw[List.length_set,xr]
  ·exact xr F f t i
theorem OU {p:CR} {f t:Int} (hl:p.2.2.2.1.length≤1000000):kJ p f t=some (p.1,p.2.1,p.2.2.1,lk p.2.2.2.1 f t p.2.2.2.1.length,p.2.2.2.2):=by
 have hL:ai (gb f t) aN (0,p.2.2.2.1)=some (.brk ((p.2.2.2.1.length:Int),lk p.2.2.2.1 f t p.2.2.2.1.length)):=bg (f:=gb f t) (fun i=>((i:Int),lk p.2.2.2.1 f t i)) p.2.2.2.1.length (fun i hi=>by
  have hk:=xr p.2.2.2.1 f t i
  unfold gb
  simp only
  rw[if_pos (by simp;omega),pj];simp only[Option.bind_some]
  rw[lk,ae (by omega)]
  by_cases c:Nz f i=true
  ·rw[if_pos c,if_pos c,aw (by omega) (by omega)];simp only[Option.bind_some,Int.toNat_natCast]
  ·rw[if_neg c,if_neg c];rfl) (by unfold gb;simp[xr]) (q9 (by omega))
 unfold kJ
 rw[aj hL]
theorem FN {p:CR} {f t:Int} (hl:p.2.2.2.1.length≤1000000):cJ p f t=some (p.1,p.2.1,p.2.2.1,lk p.2.2.2.1 f t p.2.2.2.1.length,p.2.2.2.2):=by
 have hL:ai (bY p f t) aN (0,p.2.2.2.1)=some (.brk ((p.2.2.2.1.length:Int),lk p.2.2.2.1 f t p.2.2.2.1.length)):=bg (f:=bY p f t) (fun i=>((i:Int),lk p.2.2.2.1 f t i)) p.2.2.2.1.length (fun i hi=>by
  have hk:=xr p.2.2.2.1 f t i
  unfold bY
  simp only
  rw[if_pos (by simp;omega),pj];simp only[Option.bind_some]
  rw[lk,ae (by omega)]
  by_cases c:Nz f i=true
  ·rw[if_pos c,if_pos c,aw (by omega) (by omega)];simp only[Option.bind_some,Int.toNat_natCast]
  ·rw[if_neg c,if_neg c];rfl) (by unfold bY;simp) (q9 (by omega))
 unfold cJ
 rw[aj hL]
def BOk (x:Tr Tok):Prop:= ∀(n m:Nat) (p:CR),(flat x).length≤n→(flat x).length≤m→p.2.2.2.1.length=p.1.length→p.1.length+(flat x).length≤100000→
 ∃(nu:Bool) (fi la:Int) (q:CR),ct n p (flat x)=some ((nu,fi,la),q)∧aT m p x=some ((fi,la,nu),q)∧q.2.2.2.1.length=q.1.length∧q.1.length≤p.1.length+(flat x).length
theorem ND {x:Tr Tok} (h:WT x):BOk x:=by
 refine WT.ind (p:=BOk) ?_ ?_ ?_ h
 ·intro t e n m p hn hm hF hl
  rw[yi] at hn hm hl⊢
  simp only[List.length_cons,List.length_nil] at hl
  match n,m,hn,hm with
  | n+1,m+1,_,_ =>
   rw[ct,aT];simp only[mQ,Option.bind_some]
   have:=(kq (A:=[]) (t:=t) (by simp)).1
   rw[List.nil_append] at this
   rw[this];simp only[Option.bind_some,ez]
   rcases k9 (show 0≤ar t by omega) with ⟨k,_⟩ | ⟨k,_⟩ | ⟨_,k⟩
   ·omega
   ·omega
   rcases k with k | k | k
   ·exact ⟨false,0,0,p,by simp[k],by simp[k],hF,by simp⟩
   ·exact ⟨true,0,0,p,by simp[k],by simp[k],hF,by simp⟩
   ·refine ⟨false,Ev 1 (p.1.length:Int),Ev 1 (p.1.length:Int),(p.1++ [t.2.1],p.2.1,p.2.2.1,p.2.2.2.1++ [0],p.2.2.2.2),?_,?_,by simp[hF],by simp⟩
    ·rw[if_neg (by simp[k]),if_pos (by simp[k]),az (by simp;omega)];simp only[Option.bind_some]
     rw[az (by simp;omega)];rfl
    ·rw[if_neg (by simp[k]),if_pos (by simp[k]),az (by simp;omega)];simp only[Option.bind_some]
     rw[az (by simp;omega)];rfl
 ·intro t a e wa ih n m p hn hm hF hl
  rw[AL] at hn hm hl⊢
  simp only[List.length_append,List.length_cons,List.length_nil] at hn hm hl
  match n,m,hn,hm with
  | n+1,m+1,hn,hm =>
   rw[ct,aT];simp only[mQ,Option.bind_some,ez]
   obtain ⟨l1,l2⟩:=kq (A:=flat a) (t:=t) (by omega)
   rw[l1];simp only[Option.bind_some]
   obtain ⟨nu,fi,la,q,hs,hi,hq1,hq2⟩:=ih n m p (by omega) (by omega) hF (by omega)
   rcases Nv e with ⟨k1,k2⟩ | ⟨k1,k2,k3⟩
   ·have g2:(t.1==2)=false:=by simp[k2]
    have g3:(t.1==3)=false:=by simp[k2]
    have g4:(t.1==4)=false:=by simp[k2]
    have g5:(t.1==5)=false:=by simp[k2]
    simp only[g2,g3,g4,g5,k1,Bool.false_eq_true,if_false,if_true]
    rw[l2,Int.toNat_natCast,List.take_left,j8 (by simp only[List.length_append,List.length_cons,List.length_nil];omega)];simp only[Option.bind_some]
    rw[hs,show aF [a] 0=some a from rfl];simp only[Option.bind_some]
    rw[hi];simp only[Option.bind_some,ez]
    rw[OU (by omega),FN (by omega)];simp only[Option.bind_some]
    refine ⟨true,fi,la,_,rfl,rfl,?_,?_⟩
    ·simp only[xr];exact hq1
    ·simp only[List.length_append,List.length_cons,List.length_nil];omega
   ·have g2:(t.1==2)=false:=by simp[k3]
    have g3:(t.1==3)=false:=by simp[k3]
    have g4:(t.1==4)=false:=by simp[k3]
    have g5:(t.1==5)=false:=by simp[k3]
    simp only[g2,g3,g4,g5,k1,Bool.false_eq_true,if_false]
    exact ⟨false,0,0,p,rfl,rfl,hF,by omega⟩
 ·intro t a b e wa wb iha ihb n m p hn hm hF hl
  rw[qX] at hn hm hl⊢
  have hl2:((flat a++flat b)++ [t]).length≤1000000:=by omega
  obtain ⟨p1,p2,p3,p4⟩:=xq (a:=a) (t:=t) wb hl2
  simp only[List.length_append,List.length_cons,List.length_nil] at hn hm hl
  match n,m,hn,hm with
  | n+1,m+1,hn,hm =>
   have hpa:=wa.pos
   have hpb:=wb.pos
   rw[ct,aT];simp only[mQ,Option.bind_some,ez]
   obtain ⟨l1,l2⟩:=kq (A:=flat a++flat b) (t:=t) (by rw[List.length_append];omega)
   rw[l1];simp only[Option.bind_some]
   obtain ⟨nu,fi,la,q,hs,hi,hq1,hq2⟩:=iha n m p (by omega) (by omega) hF (by omega)
   obtain ⟨nu2,fi2,la2,q2,hs2,hi2,hq3,hq4⟩:=ihb n m q (by omega) (by omega) hq1 (by omega)
   have c1: ∀r:Int,0≤r→r≤((flat a++flat b++ [t]).length:Int)→chk (0≤r∧r≤((flat a++flat b++ [t]).length:Int))=some ():=fun r h1 h2=>j8 ⟨h1,h2⟩
   have g0:aF [a,b] 0=some a:=rfl
   have g1:aF [a,b] 1=some b:=rfl
   rcases k9 (show 0≤ar t by omega) with ⟨_,k⟩ | ⟨k,_⟩ | ⟨k,_⟩
   ·rcases k with k | k
    ·have g2:(t.1==2)=false:=by simp[k]
     have g3:(t.1==3)=false:=by simp[k]
     have g4:(t.1==4)=true:=by simp[k]
     have g5:(t.1==5)=false:=by simp[k]
     simp only[g2,g3,g4,g5,Bool.false_eq_true,if_false,if_true]
     rw[l2,p1,p2,j8 (by simp only[List.length_append,List.length_cons,List.length_nil];omega)];simp only[Option.bind_some]
     rw[j8 (by simp only[List.length_append,List.length_cons,List.length_nil];omega),p3,p4,hs,g0,g1];simp only[Option.bind_some]
     rw[hi,j8 (by simp only[List.length_append,List.length_cons,List.length_nil];omega)];simp only[Option.bind_some,ez]
     rw[hs2,hi2];simp only[Option.bind_some,ez]
     rw[OU (by omega),FN (by omega)];simp only[Option.bind_some]
     refine ⟨nu&&nu2,if nu then orI fi fi2 else fi,if nu2 then orI la la2 else la2,(q2.1,q2.2.1,q2.2.2.1,lk q2.2.2.2.1 la fi2 q2.2.2.2.1.length,q2.2.2.2.2),?_,?_,?_,?_⟩
     ·cases nu <;> cases nu2 <;> rfl
     ·rw[NC la la2]
      cases nu <;> cases nu2 <;> rfl
     ·simp only[xr];exact hq3
     ·simp only[List.length_append,List.length_cons,List.length_nil];omega
    ·have g2:(t.1==2)=false:=by simp[k]
     have g3:(t.1==3)=false:=by simp[k]
     have g4:(t.1==4)=false:=by simp[k]
     have g5:(t.1==5)=true:=by simp[k]
     simp only[g2,g3,g4,g5,Bool.false_eq_true,if_false,if_true]
     rw[l2,p1,p2,j8 (by simp only[List.length_append,List.length_cons,List.length_nil];omega)];simp only[Option.bind_some]
     rw[j8 (by simp only[List.length_append,List.length_cons,List.length_nil];omega),p3,p4,hs,g0,g1];simp only[Option.bind_some]
     rw[hi,j8 (by simp only[List.length_append,List.length_cons,List.length_nil];omega)];simp only[Option.bind_some,ez]
     rw[hs2,hi2];simp only[Option.bind_some,ez]
     refine ⟨nu || nu2,orI fi fi2,orI la la2,q2,?_,?_,hq3,?_⟩
     ·cases nu <;> simp
     ·cases nu <;> simp
     ·simp only[List.length_append,List.length_cons,List.length_nil];omega
   ·omega
   ·omega
def El (e:List Tok):Nat→Nat
 | 0=>0
 | i+1=>if (nth e (i:Int)).1=3 then El e i+1 else El e i
theorem Em (e:List Tok): ∀i,El e i≤i
 | 0=>Nat.le_refl _
 | i+1=>by
  have:=Em e i
  rw[El];split <;> omega
theorem T5 {r:List Tok×Bool} (hl:r.1.length≤1000000):ai (cv r) aN (0,0)=some (.brk ((El r.1 r.1.length:Int),(r.1.length:Int))):=
 bg (f:=cv r) (fun i=>((El r.1 i:Int),(i:Int))) r.1.length (fun i hi=>by
  have:=Em r.1 i
  unfold cv
  simp only
  rw[if_pos (by simp;omega),aw (by omega) (by omega)];simp only[Option.bind_some]
  rw[El,ae (show i<9223372036854775807 by omega),ae (show El r.1 i<9223372036854775807 by omega)]
  by_cases c:(nth r.1 (i:Int)).1=3
  ·rw[if_pos (by simpa using c),if_pos c];rfl
  ·rw[if_neg (by simpa using c),if_neg c];rfl) (by unfold cv;simp) (q9 (by omega))
theorem T6 {r:List Tok×Bool} (hl:r.1.length≤1000000):ai (cx r) aN (0,0)=some (.brk ((El r.1 r.1.length:Int),(r.1.length:Int))):=
 bg (f:=cx r) (fun i=>((El r.1 i:Int),(i:Int))) r.1.length (fun i hi=>by
  have:=Em r.1 i
  unfold cx
  simp only
  rw[if_pos (by simp;omega),aw (by omega) (by omega)];simp only[Option.bind_some]
  rw[El,ae (show i<9223372036854775807 by omega),ae (show El r.1 i<9223372036854775807 by omega)]
  by_cases c:(nth r.1 (i:Int)).1=3
  ·rw[if_pos (by simpa using c),if_pos c];rfl
  ·rw[if_neg (by simpa using c),if_neg c];rfl) (by unfold cx;simp) (q9 (by omega))
theorem qZ {e:List Tok} (he:e.length≤1048576): ∃r:CR×Bool,fe e=some r∧ff e=some r∧r.1.2.2.2.1.length=r.1.1.length∧r.1.1.length≤100000:=by
 have hF:=sj
 obtain ⟨e1,e2⟩:=Ei he
 unfold fe ff
 rw[e1,e2];simp only[Option.bind_some]
 by_cases c:(Hh e).2=true
 ·obtain ⟨y,wy,ey,ly⟩:=QX c
  rw[if_pos c,if_pos c,aj (T5 (by rw[ey];omega)),aj (T6 (by rw[ey];omega))]
  simp only
  by_cases d:(El (Hh e).1 (Hh e).1.length:Int)>20
  ·have d':decide ((El (Hh e).1 (Hh e).1.length:Int)>20)=true:=decide_eq_true d
   simp only[d',if_true]
   exact ⟨_,rfl,rfl,rfl,by simp⟩
  ·have d':decide ((El (Hh e).1 (Hh e).1.length:Int)>20)=false:=decide_eq_false d
   simp only[d',Bool.false_eq_true,if_false]
   rw[ey,AN (by omega),tu wy];simp only[Option.bind_some]
   obtain ⟨nu,fi,la,q,hs,hi,hq1,hq2⟩:=ND wy eU eU ([],0,0,[],false) (by omega) (by omega) rfl (by simp;omega)
   rw[hs,hi];simp only[Option.bind_some]
   exact ⟨_,rfl,rfl,hq1,by simp at hq2;show q.1.length≤_;omega⟩
 ·rw[if_neg c,if_neg c]
  exact ⟨_,rfl,rfl,rfl,by simp⟩
end D
namespace D
open Go.RowKit
theorem Hj (n:Nat) (l:List Int) (hd:l.Nodup) (h: ∀x∈l,0≤x∧x<n):l.length≤n:=by
 have:=hd.length_le_of_subset (l₂:=(List.range n).map Int.ofNat) (fun x hx=>by
  obtain ⟨h0,h1⟩:=h x hx
  exact List.mem_map.2 ⟨x.toNat,List.mem_range.2 (by omega),by show ((x.toNat:Nat):Int)=x;omega⟩)
 simpa using this
theorem SH {n:Nat} {x:Int} (hn:n≤1000000) (h0:0≤x) (h1:x<n):iOk x=true:=by
 have:=KI (n:=x.toNat) (by omega)
 rwa [show ((x.toNat:Nat):Int)=x from by omega] at this
theorem SI {κ:Type} [DecidableEq κ] {nx:κ→List (Option κ)} {first:κ} {G:κ→Prop} {B N:Nat} {acc:κ→Bool} (H:NumOk nx first G B) (hB:B≤1000000) (hN:bfE nx first N):Data.sm ((0,(bfS nx first N).map acc,bfR nx first N):AutT):=by
 have hl:=H.bound _ (k7 (nx:=nx) (first:=first) N) (iL H.g0 H.gn N)
 refine ⟨trivial,⟨by rw[List.length_map];omega,fun _ _=>trivial⟩,?_,?_⟩
 ·rw[gU hN.2];have:=hN.1;omega
 ·have key: ∀i,i≤N→ ∀r∈bfR nx first i,r.length=9:=by
   intro i
   induction i with
   | zero=>intro _ r hr;cases hr
   | succ i ih =>
    intro hi r hr
    have hlt:=hN.2 i (by omega)
    rw[sb hlt] at hr
    rcases List.mem_append.1 hr with hr | hr
    ·exact ih (by omega) r hr
    ·obtain rfl:=List.mem_singleton.1 hr
     rw[dj,H.len _ (iL H.g0 H.gn i _ (List.getElem_mem hlt))]
  intro r hr
  exact ⟨by rw[key N (Nat.le_refl _) r hr];decide,fun _ _=>trivial⟩
theorem Hk:Data.sm nothing:=⟨trivial,⟨by decide,fun _ _=>trivial⟩,by decide,fun r hr=>by
 obtain rfl:=List.mem_singleton.1 hr
 exact ⟨by decide,fun _ _=>trivial⟩⟩
end D
namespace D
open Go.RowKit
theorem Hl {κ:Type} [DecidableEq κ] {l m:List κ} (h:l <+:m) {y:κ} (hy:y∈l):(m.idxOf y:Int)=l.idxOf y:=by
 obtain ⟨t,rfl⟩:=h
 rw[List.idxOf_append,if_pos hy]
theorem OV {κ:Type} [DecidableEq κ] : ∀(l:List κ) (os:List (Option κ)) (i:Nat),i<os.length→nth (nbR l os) (i:Int)=nbI (nbS l os) (nth os (i:Int))
 | l,o::os,0,_=>by
  show nbI l o=nbI (nbS (nbL l o) os) o
  cases o with
  | none=>rfl
  | some y =>
   have hm:y∈nbL l (some y):=J4.2 (.inr rfl)
   simp only[nbI]
   rw[Hl (jh _ os) hm]
   by_cases c:y∈l
   ·rw[j4 c]
   ·rw[ji c,List.idxOf_append,if_neg c,mO c];simp
 | l,o::os,i+1,h=>by
  have h':i<os.length:=by simpa using h
  have ih:=OV (nbL l o) os i h'
  have e1:nth (nbR l (o::os)) ((i+1:Nat):Int)=nth (nbR (nbL l o) os) (i:Int):=by
   rw[bG (by rw[dj];exact h),bG (by rw[dj];exact h')];rfl
  have e2:nth (o::os) ((i+1:Nat):Int)=nth os (i:Int):=by rw[bG h,bG h'];rfl
  rw[e1,e2];exact ih
theorem lZ {κ:Type} [DecidableEq κ] {l:List κ} {y:κ} (h:y∈l): ∃(q:Nat) (hq:q<l.length),nbI l (some y)=(q:Int)∧l[q] =y:=
 ⟨l.idxOf y,List.idxOf_lt_length_of_mem h,rfl,by simp⟩
theorem AT {κ:Type} [DecidableEq κ] {l:List κ} {y:κ} (h:y∉l):nbI l (some y)=(l.length:Int):=by simp only[nbI,mO h]
def OW:List Int→Nat→Nat→Prop
 | [],c,m=>c=m
 | x::xs,c,m=>(x= -1∧OW xs c m)∨(0≤x∧x<c∧OW xs c m)∨(x=c∧OW xs (c+1) m)
theorem AU {κ:Type} [DecidableEq κ] : ∀(os:List (Option κ)) (l:List κ),OW (nbR l os) l.length (nbS l os).length
 | [],l=>rfl
 | none::os,l=>.inl ⟨rfl,AU os l⟩
 | some y::os,l=>by
  by_cases c:y∈l
  ·refine .inr (.inl ⟨Int.natCast_nonneg _,?_,?_⟩)
   ·have:=List.idxOf_lt_length_of_mem c
    simp only[nbI];omega
   ·show OW (nbR (nbL l (some y)) os) l.length (nbS (nbL l (some y)) os).length
    rw[j4 c];exact AU os l
  ·refine .inr (.inr ⟨by simp only[nbI,mO c],?_⟩)
   show OW (nbR (nbL l (some y)) os) (l.length+1) (nbS (nbL l (some y)) os).length
   have:=AU os (l++ [y])
   rw[ji c]
   simpa using this
def Tm:List Int→List (Option (List Int))→Prop
 | [],[] =>True
 | x::xs,o::os=>((x<0∧o=none)∨(0≤x∧ ∃t,o=some (x::t)))∧Tm xs os
 | _,_=>False
theorem KM: ∀(xs:List Int) (os:List (Option (List Int))),xs.length=os.length→(∀i (h:i<xs.length) (h':i<os.length),(xs[i] < 0∧os[i] =none)∨(0≤xs[i] ∧ ∃t,os[i] =some (xs[i] ::t)))→Tm xs os
 | [],[],_,_=>trivial
 | x::xs,o::os,hl,h=>⟨h 0 (by simp) (by simp),KM xs os (by simpa using hl) fun i h1 h2=>h (i+1) (by simpa using h1) (by simpa using h2)⟩
theorem ld: ∀(xs:List Int) (os:List (Option (List Int))) (l:List (List Int)) (c m:Nat),Tm xs os→OW xs c m→(∀y∈l,∃h t,y=h::t∧h<c)→
  m+l.length≤(nbS l os).length+c∧(l.length=c→(∀(q:Nat) (hq:q<l.length),∃t,l[q] =(q:Int)::t)→(nbS l os).length=m→nbR l os=xs)
 | [],[],l,c,m,_,hn,_=>by
  have hn:c=m:=hn
  subst hn
  exact ⟨by simp[nbS];omega,fun _ _ _=>rfl⟩
 | x::xs,o::os,l,c,m,hr,hn,hh=>by
  obtain ⟨hr1,hr2⟩:=hr
  rcases hn with ⟨rfl,hn⟩ | ⟨hx0,hxc,hn⟩ | ⟨rfl,hn⟩
  ·have ho:o=none:=by
    rcases hr1 with ⟨-,h⟩ | ⟨h,-⟩
    ·exact h
    ·omega
   subst ho
   obtain ⟨i1,i2⟩:=ld xs os l c m hr2 hn hh
   exact ⟨i1,fun h1 h2 h3=>by show -1::nbR l os=_;rw[i2 h1 h2 h3]⟩
  ·obtain ⟨t,rfl⟩: ∃t,o=some (x::t):=by
    rcases hr1 with ⟨h,-⟩ | ⟨-,h⟩
    ·omega
    ·exact h
   by_cases k:(x::t)∈l
   ·obtain ⟨i1,i2⟩:=ld xs os l c m hr2 hn hh
    have hb:nbL l (some (x::t))=l:=j4 k
    refine ⟨by show m+l.length≤(nbS (nbL l (some (x::t))) os).length+c;rw[hb];exact i1,fun h1 h2 h3=>?_⟩
    have h3:(nbS (nbL l (some (x::t))) os).length=m:=h3
    rw[hb] at h3
    obtain ⟨q,hq,e1,e2⟩:=lZ k
    obtain ⟨t',ht'⟩:=h2 _ hq
    rw[e2] at ht'
    have:x=(q:Int):=by injection ht'
    show nbI l (some (x::t))::nbR (nbL l (some (x::t))) os=_
    rw[e1,←this,hb,i2 h1 h2 h3]
   ·have hb:nbL l (some (x::t))=l++ [x::t]:=ji k
    obtain ⟨i1,i2⟩:=ld xs os (l++ [x::t]) c m hr2 hn (fun y hy=>by
     rcases List.mem_append.1 hy with hy | hy
     ·exact hh y hy
     ·obtain rfl:=List.mem_singleton.1 hy
      exact ⟨x,t,rfl,hxc⟩)
    rw[List.length_append,List.length_singleton] at i1
    refine ⟨by show m+l.length≤(nbS (nbL l (some (x::t))) os).length+c;rw[hb];omega,fun h1 h2 h3=>?_⟩
    have h3:(nbS (nbL l (some (x::t))) os).length=m:=h3
    rw[hb] at h3
    omega
  ·obtain ⟨t,rfl⟩: ∃t,o=some ((c:Int)::t):=by
    rcases hr1 with ⟨h,-⟩ | ⟨-,h⟩
    ·omega
    ·exact h
   have k:((c:Int)::t)∉l:=fun k=>by
    obtain ⟨h,t',e,hlt⟩:=hh _ k
    have:(c:Int)=h:=by injection e
    omega
   have hb:nbL l (some ((c:Int)::t))=l++ [(c:Int)::t]:=ji k
   obtain ⟨i1,i2⟩:=ld xs os (l++ [(c:Int)::t]) (c+1) m hr2 hn (fun y hy=>by
    rcases List.mem_append.1 hy with hy | hy
    ·obtain ⟨h,t',e,hlt⟩:=hh y hy
     exact ⟨h,t',e,by omega⟩
    ·obtain rfl:=List.mem_singleton.1 hy
     exact ⟨c,t,rfl,by omega⟩)
   have hlen:(l++ [(c:Int)::t]).length=l.length+1:=by simp
   rw[hlen] at i1
   refine ⟨by show m+l.length≤(nbS (nbL l (some ((c:Int)::t))) os).length+c;rw[hb];omega,fun h1 h2 h3=>?_⟩
   have h3:(nbS (nbL l (some ((c:Int)::t))) os).length=m:=h3
   rw[hb] at h3
   have:=i2 (by rw[hlen,h1]) (fun q hq=>by
    by_cases e:q<l.length
    ·rw[List.getElem_append_left e];exact h2 q e
    ·have e:q=l.length:=by omega
     subst e
     exact ⟨t,by simp;omega⟩) h3
   show nbI l (some ((c:Int)::t))::nbR (nbL l (some ((c:Int)::t))) os=_
   rw[hb,this,AT k,h1]
theorem AW (xs ys:List Int) (hN:xs.length≤1048576): ∃r,kH xs ys=some r∧(r=0↔xs=ys):=by
 unfold kH
 have h0:=Sk (f:=lz xs ys) xs ys (fun i h h'=>by
  simp only[lz,bp h,bp h',if_true,al h,al h',Option.bind_some,ae (show i<9223372036854775807 by omega)]
  by_cases h1:xs[i] < ys[i]
  ·simp[h1]
  ·by_cases h2:xs[i] > ys[i]
   ·simp[h1,h2]
   ·simp[h1,h2]) (fun i hi=>by
  simp only[lz]
  by_cases h1:i<xs.length
  ·have h2: ¬i<ys.length:=by omega
   simp[h1,h2]
  ·simp[h1]) xs.length 0 aN (by omega) (fH _ (by omega))
 rw[show (((0:Nat):Int))=(0:Int) from rfl] at h0
 rcases h0 with ⟨r,e,h1,h2⟩ | ⟨s,e,h1⟩
 ·exact ⟨r,by rw[e];rfl,by simp[h1,h2]⟩
 ·rw[e]
  simp only[aC]
  by_cases c1:xs.length<ys.length
  ·exact ⟨-1,by simp[c1],by simp;intro e;subst e;omega⟩
  ·by_cases c2:xs.length>ys.length
   ·exact ⟨1,by simp[c1,c2],by simp;intro e;subst e;omega⟩
   ·exact ⟨0,by simp[c1,c2],by simpa using h1 (by omega)⟩
theorem xt (xs ys:List Int) (hN:xs.length≤9223372036854775807):bz xs ys=some (decide (xs=ys)):=
 eqL (f:=bI xs ys) xs ys hN (fun i h h'=>by
  simp only[bI,bp h,if_true,al h,al h',Option.bind_some,ae (show i<9223372036854775807 by omega)]
  by_cases c:xs[i] =ys[i] <;> simp[c]) (by simp only[bI,ba];rfl)
def Hx (a:AutT):List Int:=(List.range a.2.1.length).map fun s:Nat=>if nth (live a) (s:Int)=true then (if nth a.2.1 (s:Int)=true then 1 else 0) else -1
def ent (a:AutT) (c:List Int) (s:Int) (k:Nat):Int:=if mv a s k<0 then -1 else nth c (mv a s k)
def AX (a:AutT) (c:List Int) (s:Int):List Int:=nth c s::(List.range 9).map fun k=>ent a c s k
def A2 (a:AutT) (c:List Int) (s:Nat):Option (List Int):=if nth c (s:Int)<0 then none else some (AX a c s)
def keys (a:AutT) (c:List Int):List (Option (List Int)):=(List.range a.2.1.length).map (A2 a c)
def zi (a:AutT) (c:List Int):List Int:=nbR [] (keys a c)
def vt (a:AutT) (c:List Int):Nat:=(nbS [] (keys a c)).length
def cI (a:AutT):Nat→List Int
 | 0=>Hx a
 | j+1=>zi a (cI a j)
section
variable {a:AutT} {n:Nat}
theorem cX (a:AutT) (c:List Int):(keys a c).length=a.2.1.length:=by simp[keys]
theorem En {c:List Int} {s:Nat} (h:s<a.2.1.length):nth (keys a c) (s:Int)=A2 a c s:=by
 rw[bG (by simpa [keys] using h)];simp[keys]
theorem xu (a:AutT) (c:List Int):(zi a c).length=a.2.1.length:=by rw[zi,dj,cX]
theorem lf (a:AutT): ∀j,(cI a j).length=a.2.1.length
 | 0=>by simp[cI,Hx]
 | j+1=>xu a _
theorem nG {κ:Type} [DecidableEq κ] : ∀(l:List κ) (os:List (Option κ)),(nbS l os).length≤l.length+os.length
 | l,[] =>by simp[nbS]
 | l,o::os=>by
  have h:=nG (nbL l o) os
  have:(nbL l o).length≤l.length+1:=by
   cases o with
   | none=>simp[nbL]
   | some x=>unfold nbL;simp only;split <;> simp
  show (nbS (nbL l o) os).length≤_
  rw[List.length_cons];omega
theorem Eo (a:AutT) (c:List Int):vt a c≤a.2.1.length:=by
 have:=nG ([] :List (List Int)) (keys a c)
 rw[cX] at this
 simpa [vt] using this
theorem AY {c:List Int} {s:Nat} (h:s<a.2.1.length):nth (zi a c) (s:Int)=nbI (nbS [] (keys a c)) (A2 a c s):=by
 rw[zi,OV _ _ _ (by rw[cX];exact h),En h]
theorem xw {c:List Int} {s:Nat} (h:s<a.2.1.length) (hc: ¬nth c (s:Int)<0):AX a c s∈nbS [] (keys a c):=by
 refine tm.2 (.inr ?_)
 refine List.mem_map.2 ⟨s,List.mem_range.2 h,?_⟩
 unfold A2;rw[if_neg hc]
theorem vu {c:List Int} {s:Nat} (h:s<a.2.1.length):(nth (zi a c) (s:Int)<0↔nth c (s:Int)<0)∧(nth (zi a c) (s:Int)<0→nth (zi a c) (s:Int)= -1):=by
 rw[AY h]
 unfold A2
 by_cases hc:nth c (s:Int)<0
 ·rw[if_pos hc];simp[nbI,hc]
 ·rw[if_neg hc]
  obtain ⟨q,hq,e,-⟩:=lZ (xw h hc)
  rw[e]
  exact ⟨⟨fun h=>by omega,fun h=>absurd h hc⟩,fun h=>by omega⟩
theorem Q3 {c:List Int} {s:Nat} (h:s<a.2.1.length):nth (zi a c) (s:Int)<(a.2.1.length:Int):=by
 rw[AY h]
 unfold A2
 by_cases hc:nth c (s:Int)<0
 ·rw[if_pos hc];simp only[nbI];omega
 ·rw[if_neg hc]
  obtain ⟨q,hq,e,-⟩:=lZ (xw h hc)
  have:=Eo a c
  unfold vt at this
  rw[e];omega
theorem KN {c:List Int} {s t:Nat} (hs:s<a.2.1.length) (ht:t<a.2.1.length) (h0:0≤nth (zi a c) (s:Int)) (h:nth (zi a c) (s:Int)=nth (zi a c) (t:Int)):AX a c s=AX a c t:=by
 have n1: ¬nth c (s:Int)<0:=fun k=>by have:=(vu hs).1.2 k;omega
 have n2: ¬nth c (t:Int)<0:=fun k=>by have:=(vu ht).1.2 k;omega
 rw[AY hs,AY ht] at h
 unfold A2 at h
 rw[if_neg n1,if_neg n2] at h
 obtain ⟨q,hq,e1,e2⟩:=lZ (xw hs n1)
 obtain ⟨q',hq',e1',e2'⟩:=lZ (xw ht n2)
 rw[e1,e1'] at h
 obtain rfl:q=q':=by omega
 rw[←e2,←e2']
theorem zj (a:AutT) {s:Nat} (h:s<a.2.1.length): ∀j,(nth (cI a j) (s:Int)<0↔nth (live a) (s:Int)=false)∧(nth (cI a j) (s:Int)<0→nth (cI a j) (s:Int)= -1)
 | 0=>by
  have e:nth (cI a 0) (s:Int)=if nth (live a) (s:Int)=true then (if nth a.2.1 (s:Int)=true then 1 else 0) else -1:=by
   show nth (Hx a) (s:Int)=_
   rw[bG (by simpa [Hx] using h)];simp[Hx]
  rw[e]
  cases nth (live a) (s:Int) <;> cases nth a.2.1 (s:Int) <;> simp
 | j+1=>by
  have ih:=zj a h j
  have:=vu (c:=cI a j) h
  exact ⟨this.1.trans ih.1,this.2⟩
theorem OX (a:AutT) {s t:Nat} (hs:s<a.2.1.length) (ht:t<a.2.1.length): ∀j,0≤nth (cI a j) (s:Int)→nth (cI a j) (s:Int)=nth (cI a j) (t:Int)→nth a.2.1 (s:Int)=nth a.2.1 (t:Int)
 | 0,h0,h=>by
  have e: ∀ {s:Nat},s<a.2.1.length→nth (cI a 0) (s:Int)=if nth (live a) (s:Int)=true then (if nth a.2.1 (s:Int)=true then 1 else 0) else -1:=by
   intro s h
   show nth (Hx a) (s:Int)=_
   rw[bG (by simpa [Hx] using h)];simp[Hx]
  rw[e hs] at h0 h
  rw[e ht] at h
  revert h0 h
  cases nth (live a) (s:Int) <;> cases nth a.2.1 (s:Int) <;> cases nth (live a) (t:Int) <;> cases nth a.2.1 (t:Int) <;> simp
 | j+1,h0,h=>by
  have k:=KN (c:=cI a j) hs ht h0 h
  have h1:nth (cI a j) (s:Int)=nth (cI a j) (t:Int):=by
   unfold AX at k;injection k
  refine OX a hs ht j ?_ h1
  have:=(vu (c:=cI a j) hs).1
  by_cases q:nth (cI a j) (s:Int)<0
  ·have:=this.2 q
   have h0:0≤nth (zi a (cI a j)) (s:Int):=h0
   omega
  ·omega
theorem Q4 (a:AutT) (j:Nat):OW (cI a (j+1)) 0 (vt a (cI a j)):=AU (keys a (cI a j)) []
theorem NF (a:AutT) {c:List Int} (hc:c.length=a.2.1.length):Tm c (keys a c):=by
 refine KM _ _ (by rw[cX,hc]) fun i h h'=>?_
 have e1:c[i] =nth c (i:Int):=(bG h).symm
 have e2:(keys a c)[i] =A2 a c i:=by simp[keys]
 rw[e1,e2]
 unfold A2
 by_cases k:nth c (i:Int)<0
 ·exact .inl ⟨k,by rw[if_pos k]⟩
 ·exact .inr ⟨by omega,_,by rw[if_neg k];rfl⟩
theorem KO (a:AutT) (j:Nat):vt a (cI a j)≤vt a (cI a (j+1))∧(vt a (cI a (j+1))=vt a (cI a j)→cI a (j+2)=cI a (j+1)):=by
 obtain ⟨h1,h2⟩:=ld (cI a (j+1)) (keys a (cI a (j+1))) [] 0 (vt a (cI a j)) (NF a (lf a _)) (Q4 a j) (fun y hy=>by cases hy)
 exact ⟨by simpa [vt] using h1,fun h=>h2 rfl (fun q hq=>absurd hq (Nat.not_lt_zero q)) h⟩
theorem OY {j k:Nat} (h:cI a (j+1)=cI a j) (hk:j≤k):cI a k=cI a j:=by
 induction hk with
 | refl=>rfl
 | step _ ih=>rw[cI,ih];exact h
theorem KP {j k:Nat} (h:cI a (j+1)=cI a j) (h':cI a (k+1)=cI a k):cI a j=cI a k:=by
 rcases Nat.le_total j k with e | e
 ·exact (OY h e).symm
 ·exact OY h' e
theorem Q5 (a:AutT): ∃j,j≤a.2.1.length∧cI a (j+1)=cI a j:=by
 by_cases h0:cI a 1=cI a 0
 ·exact ⟨0,Nat.zero_le _,h0⟩
 have hpos:1≤vt a (cI a 0):=by
  refine Nat.one_le_iff_ne_zero.2 fun hz=>h0 ?_
  have hnone: ∀s:Nat,s<a.2.1.length→nth (cI a 0) (s:Int)<0:=fun s hs=>by
   refine Classical.byContradiction fun k=>?_
   have:=xw (c:=cI a 0) hs k
   have hl:=List.length_pos_of_mem this
   unfold vt at hz;omega
  refine QK (by rw[lf,lf]) fun i hi=>?_
  rw[lf] at hi
  have h1:=(zj a hi 0).2 (hnone i hi)
  have h2:=(zj a hi 1).2 (((zj a hi 1).1.trans (zj a hi 0).1.symm).2 (hnone i hi))
  rw[h1,h2]
 have key: ∀m,(∃j,j≤m∧cI a (j+1)=cI a j)∨m+1≤vt a (cI a m):=by
  intro m
  induction m with
  | zero=>exact .inr hpos
  | succ m ih =>
   rcases ih with ⟨j,hj,e⟩ | ih
   ·exact .inl ⟨j,by omega,e⟩
   ·obtain ⟨g1,g2⟩:=KO a m
    by_cases e:vt a (cI a (m+1))=vt a (cI a m)
    ·exact .inl ⟨m+1,Nat.le_refl _,g2 e⟩
    ·exact .inr (by omega)
 rcases key a.2.1.length with h | h
 ·exact h
 ·have:=Eo a (cI a a.2.1.length);omega
end
end D
namespace D
open Go.RowKit
section
variable {a:AutT} {n:Nat} {c:List Int}
theorem FO (k:Nat) (s:Int):(List.range (k+1)).map (fun k=>ent a c s k)=(List.range k).map (fun k=>ent a c s k)++ [ent a c s k]:=by simp[List.range_succ]
theorem T7 (V:VA a n) (hn:n≤1000000) (hc:c.length=n) {s:Nat} (hs:s<n):mg a c s=some (AX a c s):=by
 unfold mg
 rw[aw (by omega) (by omega)];simp only[Option.bind_some]
 have:=bg (f:=kc a c s) (fun k=>(nth c (s:Int)::(List.range k).map (fun k=>ent a c s k),(k:Int))) 9 (fun k hk=>by
  have hm:=V.mv (s:=s) (k:=k) (by omega) (by omega) hk
  unfold kc
  simp only
  rw[if_pos (by simp;omega),V.get (by omega) (by omega)];simp only[Option.bind_some]
  rw[V.get2 (by omega) (by omega) hk,FO];simp only[Option.bind_some,ae (show k<9223372036854775807 by omega)]
  by_cases h:mv a s k<0
  ·rw[if_pos (by simpa using h),az (by simp;omega),show ent a c s k= -1 from by unfold ent;rw[if_pos h]];rfl
  ·rw[if_neg (by simpa using h),aw (by omega) (by omega)];simp only[Option.bind_some]
   rw[az (by simp;omega),show ent a c s k=nth c (mv a s k) from by unfold ent;rw[if_neg h]];rfl) (by unfold kc;simp) (by unfold aN;omega)
 exact aj this
theorem T8 (V:VA a n) (hn:n≤1000000) (hc:c.length=n) {s:Nat} (hs:s<n):ai (bZ c (nth a.2.2 (s:Int))) aN (0,[nth c (s:Int)])=some (.brk (9,AX a c s)):=by
 have hr:=V.rowAt (s:=s) (by omega) (by omega)
 exact bg (f:=bZ c (nth a.2.2 (s:Int))) (fun k=>((k:Int),nth c (s:Int)::(List.range k).map (fun k=>ent a c s k))) 9 (fun k hk=>by
  have hm:=V.mv (s:=s) (k:=k) (by omega) (by omega) hk
  unfold bZ
  simp only
  rw[if_pos (by simp[hr];omega),V.get2 (by omega) (by omega) hk,FO];simp only[Option.bind_some,ae (show k<9223372036854775807 by omega)]
  by_cases h:mv a s k<0
  ·have e:mv a s k= -1:=by omega
   rw[if_neg (by simp;omega)];simp only[Option.bind_some]
   rw[az (by simp;omega),show ent a c s k=mv a s k from by unfold ent;rw[if_pos h,e]];rfl
  ·rw[if_pos (by simp;omega),aw (by omega) (by omega)];simp only[Option.bind_some]
   rw[az (by simp;omega),show ent a c s k=nth c (mv a s k) from by unfold ent;rw[if_neg h]];rfl) (by unfold bZ;simp[hr]) (by unfold aN;omega)
theorem CL {κ:Type} [DecidableEq κ] {l t r:List κ} {x:κ} (e:l=t++x::r) (hx:x∉t):nbI l (some x)=(t.length:Int):=by
 subst e
 simp only[nbI]
 rw[List.idxOf_append,if_neg hx,List.idxOf_cons_self,Nat.zero_add]
def SJ (l:List (List Int)) (x:List Int):Int:=if x∈l then nbI l (some x) else -1
theorem SK {l:List (List Int)} {x cs:List Int} {q:Int} (hl:l.length≤1000000) (hd:l.Nodup) (hx: ∀y∈l,y.length≤1048576):ai (dU (l,cs,q) x) aN (-1,0)=some (.brk (SJ l x,(l.length:Int))):=by
 have:=bg (f:=dU (l,cs,q) x) (fun k=>(if x∈l.take k then nbI l (some x) else -1,(k:Int))) l.length (fun k hk=>by
  unfold dU
  simp only
  rw[if_pos (by simp;omega),aw (by omega) (by omega)];simp only[Option.bind_some,Int.toNat_natCast,ae (show k<9223372036854775807 by omega)]
  obtain ⟨r,e,hr⟩:=AW (nth l (k:Int)) x (hx _ (iK (by omega) (by omega)))
  rw[e,take_one hk];simp only[Option.bind_some,List.mem_append,List.mem_singleton]
  by_cases h:nth l (k:Int)=x
  ·have h0:r=0:=hr.2 h
   have hm:x∈l:=h ▸ iK (by omega) (by omega)
   obtain ⟨q,hq,e1,e2⟩:=lZ hm
   have:q=k:=by
    have h1:l[q]? =some x:=by rw[List.getElem?_eq_getElem hq,e2]
    have h2:l[k]? =some x:=by rw[List.getElem?_eq_getElem hk,←bG hk,h]
    exact (List.getElem?_inj hq hd).1 (h1.trans h2.symm)
   subst this
   rw[if_pos (by simp[h0]),if_pos (.inr h.symm),e1];rfl
  ·have h0:r≠0:=fun e=>h (hr.1 e)
   have hn: ¬x=nth l (k:Int):=fun e=>h e.symm
   rw[if_neg (by simpa using h0)]
   simp[hn]) (by unfold dU;simp) (q9 (by omega))
 rw[List.take_of_length_le (Nat.le_refl _)] at this
 exact this
theorem SL {l:List (List Int)} {x:List Int} {f:List Int→Option Bool} (hl:l.length≤1000000) (hf: ∀y∈l,f y=some (decide (y=x))):bj l f=some (SJ l x):=by
 unfold bj
 obtain ⟨o,e,hq⟩:=cq (f:=bA l f) (fun k s=>s=(k:Int)∧x∉l.take k) (fun o=>(x∈l∧o= .ret (nbI l (some x)))∨(x∉l∧ ∃s,o= .brk s)) l.length (s:=0) (by
  rintro k s hk ⟨rfl,hx⟩
  unfold bA
  by_cases hkl:k<l.length
  ·rw[if_pos (by simp;omega),aw (by omega) (by omega)];simp only[Option.bind_some]
   rw[hf _ (iK (by omega) (by omega))];simp only[Option.bind_some]
   by_cases h:nth l (k:Int)=x
   ·refine .inr ⟨_,by rw[if_pos (by simpa using h)],(fun s' e=>by cases e),.inl ?_⟩
    have hm:x∈l:=h ▸ iK (by omega) (by omega)
    refine ⟨hm,?_⟩
    have e:l=l.take k++(x::l.drop (k+1)):=by
     rw[←h,bG hkl,←List.drop_eq_getElem_cons hkl,List.take_append_drop]
    rw[CL e hx,List.length_take,Nat.min_eq_left (by omega)]
   ·refine .inl ⟨hkl,_,by rw[if_neg (by simpa using h)],by rw[ae (by omega)],?_⟩
    rw[take_one hkl,List.mem_append,List.mem_singleton]
    rintro (h' | h')
    ·exact hx h'
    ·exact h h'.symm
  ·refine .inr ⟨_,by rw[if_neg (by simp;omega)],(fun s' e=>by cases e),.inr ⟨?_,_,rfl⟩⟩
   rwa [List.take_of_length_le (by omega)] at hx) ⟨rfl,by simp⟩ (q9 (by omega))
 unfold SJ
 rcases hq with ⟨hx,rfl⟩ | ⟨hx,s,rfl⟩
 ·rw[bR e,if_pos hx]
 ·rw[aj e,if_neg hx]
theorem xx {os:List (Option (List Int))} (h: ∀y,some y∈os→y.length=10): ∀y∈nbS [] os,y.length=10:=fun y hy=>by
 rcases tm.1 hy with hy | hy
 ·cases hy
 ·exact h y hy
theorem zk (a:AutT) (c:List Int): ∀y,some y∈keys a c→y.length=10:=by
 intro y hy
 obtain ⟨s,-,e⟩:=List.mem_map.1 hy
 unfold A2 at e
 split at e
 ·cases e
 ·rw[←Option.some.inj e];simp[AX]
section
variable (V:VA a n) (hn:n≤1000000) (hc:c.length=n)
include V hn hc
theorem FP (s:Nat):(nbS [] ((keys a c).take s)).length≤n:=by
 have:=nG ([] :List (List Int)) ((keys a c).take s)
 rw[List.length_take,cX,V.len] at this
 simp at this;omega
theorem NG {m:Int} :ai (dV a (c,m)) aN ([],[],0)=some (.brk (nbS [] (keys a c),zi a c,(n:Int))):=by
 have hlen:=V.len
 have:=bg (f:=dV a (c,m)) (fun s=>(nbS [] ((keys a c).take s),nbR [] ((keys a c).take s),(s:Int))) n (fun s hs=>by
  have hkl:=FP V hn hc s
  have hrl:(nbR [] ((keys a c).take s)).length≤n:=by rw[dj,List.length_take,cX];omega
  unfold dV
  simp only
  rw[if_pos (by simp;omega),aw (by omega) (by omega)];simp only[Option.bind_some]
  rw[take_one (by rw[cX];omega),sa,pN,En (by omega)]
  simp only[ae (show s<9223372036854775807 by omega)]
  by_cases h:nth c (s:Int)<0
  ·rw[if_pos (by simpa using h),az (by simp;omega),show A2 a c s=none from by unfold A2;rw[if_pos h]];rfl
  ·rw[if_neg (by simpa using h),show A2 a c s=some (AX a c s) from by unfold A2;rw[if_neg h]]
   rw[show mg (a.1,a.2.1,a.2.2) c (s:Int)=some (AX a c s) from T7 V hn hc hs];simp only[Option.bind_some]
   rw[aj (SK (by omega) (pe (by simp)) (fun y hy=>by rw[xx (fun y hy=>zk a c y (List.mem_of_mem_take hy)) y hy];decide))]
   simp only
   unfold SJ
   by_cases k:AX a c s∈nbS [] ((keys a c).take s)
   ·obtain ⟨q,hq,e1,e2⟩:=lZ k
    rw[if_pos k,j4 k,e1,if_neg (by simp)];simp only[Option.bind_some]
    rw[az (by simp;omega)];rfl
   ·rw[if_neg k,ji k,AT k,if_pos (show decide ((-1:Int)<0)=true from rfl),az (by simp;omega)];simp only[Option.bind_some]
    rw[az (by simp;omega)];rfl) (by
  unfold dV
  simp only
  rw[if_neg (by simp;omega)]) (q9 (by omega))
 rw[show (keys a c).take n=keys a c from List.take_of_length_le (by rw[cX];omega)] at this
 exact this
theorem NH:cK a c=some (zi a c,(vt a c:Int)):=by
 have hlen:=V.len
 unfold cK
 have:=bg (f:=cL a c) (fun s=>(nbS [] ((keys a c).take s),nbR [] ((keys a c).take s),(s:Int))) n (fun s hs=>by
  have hkl:=FP V hn hc s
  have hrl:(nbR [] ((keys a c).take s)).length≤n:=by rw[dj,List.length_take,cX];omega
  unfold cL
  simp only
  rw[if_pos (by simp;omega),aw (by omega) (by omega)];simp only[Option.bind_some]
  rw[take_one (by rw[cX];omega),sa,pN,En (by omega)]
  simp only[ae (show s<9223372036854775807 by omega)]
  by_cases h:nth c (s:Int)<0
  ·rw[if_pos (by simpa using h),az (by simp;omega),show A2 a c s=none from by unfold A2;rw[if_pos h]];rfl
  ·rw[if_neg (by simpa using h),show A2 a c s=some (AX a c s) from by unfold A2;rw[if_neg h],V.get (by omega) (by omega)];simp only[Option.bind_some]
   rw[aj (T8 V hn hc hs)];simp only
   rw[SL (x:=AX a c s) (by omega) (fun y hy=>by
    unfold fb
    rw[xt _ _ (by rw[xx (fun y hy=>zk a c y (List.mem_of_mem_take hy)) y hy];decide)];rfl)];simp only[Option.bind_some]
   unfold SJ
   by_cases k:AX a c s∈nbS [] ((keys a c).take s)
   ·obtain ⟨q,hq,e1,e2⟩:=lZ k
    rw[if_pos k,j4 k,e1,if_neg (by simp)];simp only[Option.bind_some]
    rw[az (by simp;omega)];rfl
   ·rw[if_neg k,ji k,AT k,if_pos (show decide ((-1:Int)<0)=true from rfl),az (by simp;omega)];simp only[Option.bind_some]
    rw[az (by simp;omega)];rfl) (by
  unfold cL
  simp only
  rw[if_neg (by simp;omega)]) (q9 (by omega))
 rw[show (keys a c).take n=keys a c from List.take_of_length_le (by rw[cX];omega)] at this
 exact aj this
end
end
section
variable {a:AutT} {n:Nat} (V:VA a n) (hn:n≤1000000)
include V hn
theorem CM (s:Nat):(List.range (s+1)).map (fun s:Nat=>if nth (live a) (s:Int)=true then (if nth a.2.1 (s:Int)=true then (1:Int) else 0) else -1)=(List.range s).map (fun s:Nat=>if nth (live a) (s:Int)=true then (if nth a.2.1 (s:Int)=true then 1 else 0) else -1)++ [if nth (live a) (s:Int)=true then (if nth a.2.1 (s:Int)=true then 1 else 0) else -1]:=by simp[List.range_succ]
theorem SM:ai (dS a (live a)) aN ([],0)=some (.brk (Hx a,(n:Int))):=by
 have hlen:=V.len
 have hll:(live a).length=n:=by rw[qY,hlen]
 have:=bg (f:=dS a (live a)) (fun s=>((List.range s).map (fun s:Nat=>if nth (live a) (s:Int)=true then (if nth a.2.1 (s:Int)=true then (1:Int) else 0) else -1),(s:Int))) n (fun s hs=>by
  unfold dS
  simp only
  rw[if_pos (by simp;omega),V.acc (by omega) (by omega)];simp only[Option.bind_some]
  rw[CM V hn,aw (xs:=live a) (by omega) (by omega)];simp only[ae (show s<9223372036854775807 by omega)]
  cases nth (live a) (s:Int) <;> cases nth a.2.1 (s:Int) <;> simp only[if_true,if_false,Bool.false_eq_true,Option.bind_some] <;> rw[az (by simp;omega)] <;> rfl) (by
  unfold dS
  simp only
  rw[if_neg (by simp;omega)]) (q9 (by omega))
 unfold Hx
 rw[hlen]
 exact this
theorem SN:ai (bM a (live a)) aN ([],0)=some (.brk (Hx a,(n:Int))):=by
 have hlen:=V.len
 have hll:(live a).length=n:=by rw[qY,hlen]
 have:=bg (f:=bM a (live a)) (fun s=>((List.range s).map (fun s:Nat=>if nth (live a) (s:Int)=true then (if nth a.2.1 (s:Int)=true then (1:Int) else 0) else -1),(s:Int))) n (fun s hs=>by
  unfold bM
  simp only
  rw[if_pos (by simp;omega),aw (xs:=live a) (by omega) (by omega)];simp only[Option.bind_some]
  rw[CM V hn,V.acc (by omega) (by omega)];simp only[ae (show s<9223372036854775807 by omega)]
  cases nth (live a) (s:Int) <;> cases nth a.2.1 (s:Int) <;> simp only[if_true,if_false,Bool.false_eq_true,Option.bind_some] <;> rw[az (by simp;omega)] <;> rfl) (by
  unfold bM
  simp only
  rw[if_neg (by simp;omega)]) (q9 (by omega))
 unfold Hx
 rw[hlen]
 exact this
theorem KQ: ∃J,cI a (J+1)=cI a J∧gi a=some (cI a J):=by
 have hlen:=V.len
 unfold gi
 rw[show iZ (a.1,a.2.1,a.2.2)=some (live a) from OR V hn];simp only[Option.bind_some]
 rw[aj (SM V hn)]
 obtain ⟨J0,hJ0,hfix⟩:=Q5 a
 obtain ⟨o,e,j,rfl,hj⟩:=cq (f:=ja a) (fun j s=>s=(cI a j,(j:Int))∧j≤J0) (fun o=> ∃j,o= .ret (cI a j)∧cI a (j+1)=cI a j) (J0+1) (s:=(cI a 0,0)) (by
  rintro j s hj ⟨rfl,hjJ⟩
  have hcl:(cI a j).length=n:=by rw[lf,hlen]
  unfold ja
  simp only
  rw[if_pos (by simp;omega),aj (NG V hn hcl)]
  simp only
  obtain ⟨r,er,hr⟩:=AW (zi a (cI a j)) (cI a j) (by rw[xu];omega)
  rw[er];simp only[Option.bind_some,ae (show j<9223372036854775807 by omega)]
  by_cases h:zi a (cI a j)=cI a j
  ·exact .inr ⟨_,by rw[if_pos (by simpa using hr.2 h)],(fun s' e=>by cases e),j,rfl,h⟩
  ·refine .inl ⟨by omega,(cI a (j+1),((j+1:Nat):Int)),by rw[if_neg (by simpa using fun e=>h (hr.1 e))];rfl,rfl,?_⟩
   by_cases e:j=J0
   ·subst e;exact absurd hfix h
   ·omega) ⟨rfl,Nat.zero_le _⟩ (q9 (by omega))
 exact ⟨j,hj,bR e⟩
theorem KR: ∃J,cI a (J+1)=cI a J∧cB a=some (cI a J):=by
 have hlen:=V.len
 unfold cB
 rw[show dq (a.1,a.2.1,a.2.2)=some (live a) from SA V hn];simp only[Option.bind_some]
 rw[aj (SN V hn)]
 let kk:Nat→Int:=fun j=>match j with | 0=> -1 | i+1=>(vt a (cI a i):Int)
 obtain ⟨o,e,j,rfl,hj⟩:=cq (f:=dZ a) (fun j s=>s=(cI a j,kk j)∧(j:Int)≤kk j+1) (fun o=> ∃j,o= .ret (cI a j)∧cI a (j+1)=cI a j) (n+2) (s:=(cI a 0,-1)) (by
  rintro j s hj ⟨rfl,hjk⟩
  have hcl:(cI a j).length=n:=by rw[lf,hlen]
  have hle:=Eo a (cI a j)
  unfold dZ
  simp only
  rw[show cK (a.1,a.2.1,a.2.2) (cI a j)=some (zi a (cI a j),(vt a (cI a j):Int)) from NH V hn hcl];simp only[Option.bind_some]
  cases j with
  | zero =>
   refine .inl ⟨by omega,(cI a 1,kk 1),by rw[if_neg (by show¬((vt a (cI a 0):Int) == -1)=true;simp)];rfl,rfl,?_⟩
   show (1:Int)≤(vt a (cI a 0):Int)+1
   omega
  | succ i =>
   obtain ⟨g1,g2⟩:=KO a i
   have hki:kk (i+1)=(vt a (cI a i):Int):=rfl
   rw[hki] at hjk⊢
   by_cases h:vt a (cI a (i+1))=vt a (cI a i)
   ·refine .inr ⟨.ret (cI a (i+2)),by rw[if_pos (by simp[h])];rfl,(fun s' e=>by cases e),i+2,rfl,?_⟩
    have:=g2 h
    show zi a (cI a (i+2))=cI a (i+2)
    rw[this];exact this
   ·refine .inl ⟨?_,(cI a (i+2),kk (i+2)),by rw[if_neg (by simp;omega)];rfl,rfl,?_⟩
    ·omega
    ·show ((i+1+1:Nat):Int)≤(vt a (cI a (i+1)):Int)+1
     omega) ⟨rfl,by show ((0:Nat):Int)≤ -1+1;omega⟩ (q9 (by omega))
 exact ⟨j,hj,bR e⟩
theorem Hm: ∃c,gi a=some c∧cB a=some c∧c.length=n∧zi a c=c∧ ∃j,c=cI a j:=by
 obtain ⟨J,hJ,es⟩:=KQ V hn
 obtain ⟨J',hJ',ei⟩:=KR V hn
 have:=KP hJ hJ'
 exact ⟨cI a J,es,by rw[this];exact ei,by rw[lf,V.len],hJ,J,rfl⟩
end
end D
namespace D
open Go.RowKit
section
variable {κ:Type} [DecidableEq κ] [Inhabited κ] {nx:κ→List (Option κ)} {first:κ} {G:κ→Prop} {B N:Nat} {acc:κ→Bool}
theorem xy: ∀(l:List κ) (os:List (Option κ)),∀t∈nbR l os,-1≤t∧t<((nbS l os).length:Int)
 | l,[] =>fun t ht=>by cases ht
 | l,o::os=>fun t ht=>by
  have hp:=jh (nbL l o) os
  have hl:=hp.length_le
  rcases List.mem_cons.1 ht with rfl | ht
  ·show -1≤nbI l o∧nbI l o<((nbS (nbL l o) os).length:Int)
   cases o with
   | none=>exact ⟨by simp[nbI],by simp only[nbI];omega⟩
   | some y =>
    by_cases c:y∈l
    ·obtain ⟨q,hq,e,-⟩:=lZ c
     rw[j4 c] at hl
     rw[e];exact ⟨by omega,by rw[j4 c];omega⟩
    ·rw[ji c] at hl
     rw[AT c];rw[List.length_append] at hl
     exact ⟨by omega,by rw[ji c];simp at hl;omega⟩
  ·exact xy (nbL l o) os t ht
theorem SO (H:NumOk nx first G B) (hN:bfE nx first N):VA ((0,(bfS nx first N).map acc,bfR nx first N):AutT) N:=by
 have h0:0<N:=by
  have:=CB (nx:=nx) (first:=first) N
  have:=(List.getElem?_eq_some_iff.1 this).1
  have:=hN.1;omega
 have key: ∀i,i≤N→ ∀r∈bfR nx first i,r.length=9∧ ∀t∈r,-1≤t∧t<(N:Int):=by
  intro i
  induction i with
  | zero=>intro _ r hr;cases hr
  | succ i ih =>
   intro hi r hr
   have hlt:=hN.2 i (by omega)
   rw[sb hlt] at hr
   rcases List.mem_append.1 hr with hr | hr
   ·exact ih (by omega) r hr
   ·obtain rfl:=List.mem_singleton.1 hr
    refine ⟨by rw[dj,H.len _ (iL H.g0 H.gn i _ (List.getElem_mem hlt))],fun t ht=>?_⟩
    have:=xy _ _ t ht
    rw[←AA hlt] at this
    have hl:=(tn (nx:=nx) (first:=first) hi).length_le
    have:=hN.1
    omega
 exact ⟨by show ((bfS nx first N).map acc).length=N;rw[List.length_map];exact hN.1.symm,⟨Int.le_refl _,by show (0:Int)<N;omega⟩,gU hN.2,fun r hr=>(key N (Nat.le_refl _) r hr).1,fun r hr=>(key N (Nat.le_refl _) r hr).2⟩
theorem Q6 (hlen: ∀x,(nx x).length=9) (hN:bfE nx first N):VA ((0,(bfS nx first N).map acc,bfR nx first N):AutT) N:=by
 have h0:0<N:=by
  have:=CB (nx:=nx) (first:=first) N
  have:=(List.getElem?_eq_some_iff.1 this).1
  have:=hN.1;omega
 have key: ∀i,i≤N→ ∀r∈bfR nx first i,r.length=9∧ ∀t∈r,-1≤t∧t<(N:Int):=by
  intro i
  induction i with
  | zero=>intro _ r hr;cases hr
  | succ i ih =>
   intro hi r hr
   have hlt:=hN.2 i (by omega)
   rw[sb hlt] at hr
   rcases List.mem_append.1 hr with hr | hr
   ·exact ih (by omega) r hr
   ·obtain rfl:=List.mem_singleton.1 hr
    refine ⟨by rw[dj,hlen _],fun t ht=>?_⟩
    have:=xy _ _ t ht
    rw[←AA hlt] at this
    have hl:=(tn (nx:=nx) (first:=first) hi).length_le
    have:=hN.1
    omega
 exact ⟨by show ((bfS nx first N).map acc).length=N;rw[List.length_map];exact hN.1.symm,⟨Int.le_refl _,by show (0:Int)<N;omega⟩,gU hN.2,fun r hr=>(key N (Nat.le_refl _) r hr).1,fun r hr=>(key N (Nat.le_refl _) r hr).2⟩
end
theorem VA.self {a:AutT} {n:Nat} (v:VA a n):VA a a.2.1.length:=by
 have e:=v.len
 subst e
 exact v
theorem Hn:VA nothing 1:=⟨rfl,⟨by decide,by decide⟩,rfl,fun r hr=>by
 obtain rfl:=List.mem_singleton.1 hr
 decide,fun r hr=>by
 obtain rfl:=List.mem_singleton.1 hr
 decide⟩
end D
namespace D
open Go.RowKit
theorem Q7 {l:List Int} {x:Int} (hl:l.length≤1000000) (hx:x∈l):aH x l=some (nbI l (some x)):=by
 unfold aH da
 obtain ⟨o,e,hq⟩:=cq (f:=cG l x) (fun k s=>s=(k:Int)∧x∉l.take k) (fun o=>o= .ret (nbI l (some x))) l.length (s:=0) (by
  rintro k s hk ⟨rfl,hx'⟩
  unfold cG
  by_cases hkl:k<l.length
  ·rw[if_pos (by simp;omega),aw (by omega) (by omega)];simp only[Option.bind_some]
   by_cases h:nth l (k:Int)=x
   ·refine .inr ⟨_,by rw[if_pos (by simp[h])],(fun s' e=>by cases e),?_⟩
    have e:l=l.take k++(x::l.drop (k+1)):=by
     rw[←h,bG hkl,←List.drop_eq_getElem_cons hkl,List.take_append_drop]
    rw[CL e hx',List.length_take,Nat.min_eq_left (by omega)]
   ·have h': ¬x=nth l (k:Int):=fun e=>h e.symm
    refine .inl ⟨hkl,_,by rw[if_neg (by simpa using h')],by rw[ae (by omega)],?_⟩
    rw[take_one hkl,List.mem_append,List.mem_singleton]
    rintro (h' | h')
    ·exact hx' h'
    ·exact h h'.symm
  ·rw[List.take_of_length_le (by omega)] at hx'
   exact absurd hx hx') ⟨rfl,by simp⟩ (q9 (by omega))
 subst hq
 rw[bR e];rfl
section
variable {a:AutT} {n:Nat}
def rep (c:List Int) (x:Int):Int:=nbI c (some x)
theorem KS {c:List Int} {x:Int} (h:x∈c):0≤rep c x∧rep c x<c.length∧nth c (rep c x)=x:=by
 obtain ⟨q,hq,e1,e2⟩:=lZ h
 unfold rep
 rw[e1]
 exact ⟨by omega,by omega,by rw[bG hq,e2]⟩
theorem Ho (V:VA a n) (hn:n≤1000000): ∃r,fw a=some r∧cg a=some r∧Data.sm r∧VA r r.2.1.length∧r.2.1.length≤n:=by
 have hlen:=V.len
 have hst:=V.start
 have hll:(live a).length=n:=by rw[qY,hlen]
 obtain ⟨c,es,ei,hcl,hfix,j,hj⟩:=Hm V hn
 have hneg: ∀s:Int,0≤s→s<n→(nth c s<0↔nth (live a) s=false):=fun s h0 h1=>by
  have:=(zj a (s:=s.toNat) (by omega) j).1
  rw[←hj,show ((s.toNat:Nat):Int)=s from by omega] at this
  exact this
 have hlt: ∀s:Int,0≤s→s<n→nth c s<n:=fun s h0 h1=>by
  have:=Q3 (c:=c) (a:=a) (s:=s.toNat) (by omega)
  rw[hfix,hlen,show ((s.toNat:Nat):Int)=s from by omega] at this
  exact this
 have hpos: ∀r,good n (live a) r→0≤nth c r:=fun r hr=>by
  have:=hneg r hr.1 hr.2.1
  by_cases k:nth c r<0
  ·have:=this.1 k;rw[hr.2.2] at this;cases this
  ·omega
 have hkey: ∀r t:Int,0≤r→r<n→0≤t→t<n→0≤nth c r→nth c r=nth c t→AX a c r=AX a c t:=fun r t r0 r1 t0 t1 h0 h=>by
  have:=KN (a:=a) (c:=c) (s:=r.toNat) (t:=t.toNat) (by omega) (by omega) (by rw[hfix,show ((r.toNat:Nat):Int)=r from by omega];exact h0) (by rw[hfix,show ((r.toNat:Nat):Int)=r from by omega,show ((t.toNat:Nat):Int)=t from by omega];exact h)
  rwa [show ((r.toNat:Nat):Int)=r from by omega,show ((t.toNat:Nat):Int)=t from by omega] at this
 have hacc: ∀r t:Int,0≤r→r<n→0≤t→t<n→0≤nth c r→nth c r=nth c t→nth a.2.1 r=nth a.2.1 t:=fun r t r0 r1 t0 t1 h0 h=>by
  have:=OX a (s:=r.toNat) (t:=t.toNat) (by omega) (by omega) j (by rw[←hj,show ((r.toNat:Nat):Int)=r from by omega];exact h0) (by rw[←hj,show ((r.toNat:Nat):Int)=r from by omega,show ((t.toNat:Nat):Int)=t from by omega];exact h)
  rwa [show ((r.toNat:Nat):Int)=r from by omega,show ((t.toNat:Nat):Int)=t from by omega] at this
 have hsuccs: ∀r,good n (live a) r→tx a c (live a) r=(List.range 9).map fun k=>if 0≤ent a c r k then some (ent a c r k) else none:=fun r hr=>by
  refine List.map_congr_left fun k hk=>?_
  have hk:k<9:=List.mem_range.1 hk
  have hm:=V.mv hr.1 hr.2.1 hk
  unfold ent
  by_cases h:mv a r k<0
  ·rw[if_pos h,if_neg (fun h'=>by omega),if_neg (by omega)]
  ·rw[if_neg h]
   have:=hneg (mv a r k) (by omega) hm.2
   cases hl:nth (live a) (mv a r k) with
   | false =>
    have:=this.2 hl
    rw[if_neg (fun h'=>by cases h'.2),if_neg (by omega)]
   | true =>
    have: ¬nth c (mv a r k)<0:=fun h'=>by have:=this.1 h';rw[hl] at this;cases this
    rw[if_pos ⟨by omega,rfl⟩,if_pos (by omega)]
 have hent: ∀r t:Int,AX a c r=AX a c t→ ∀k,k<9→ent a c r k=ent a c t k:=fun r t h k hk=>by
  have h:(List.range 9).map (fun k=>ent a c r k)=(List.range 9).map (fun k=>ent a c t k):=by unfold AX at h;injection h
  have:=congrArg (fun l:List Int=>l[k]?) h
  simpa [hk] using this
 let nx:Int→List (Option Int):=fun x=>tx a c (live a) (rep c x)
 let acc:Int→Bool:=fun x=>nth a.2.1 (rep c x)
 let G:Int→Prop:=fun x=> ∃r,good n (live a) r∧nth c r=x
 have Gm: ∀x,G x→x∈c∧0≤x∧good n (live a) (rep c x):=by
  rintro x ⟨r,hr,rfl⟩
  have hm:nth c r∈c:=iK hr.1 (by rw[hcl];exact hr.2.1)
  obtain ⟨h0,h1,h2⟩:=KS hm
  have hp:=hpos r hr
  refine ⟨hm,hp,h0,by omega,?_⟩
  have:=hneg (rep c (nth c r)) h0 (by omega)
  rw[h2] at this
  cases hl:nth (live a) (rep c (nth c r)) with
  | true=>rfl
  | false=>have:=this.2 hl;omega
 have hnx: ∀r,good n (live a) r→nx (nth c r)=tx a c (live a) r:=fun r hr=>by
  obtain ⟨hm,hp,hg⟩:=Gm _ ⟨r,hr,rfl⟩
  obtain ⟨h0,h1,h2⟩:=KS hm
  show tx a c (live a) (rep c (nth c r))=_
  rw[hsuccs _ hg,hsuccs _ hr]
  refine List.map_congr_left fun k hk=>?_
  rw[hent _ _ (hkey _ _ hg.1 hg.2.1 hr.1 hr.2.1 (by rw[h2];exact hp) h2) k (List.mem_range.1 hk)]
 have hac: ∀r,good n (live a) r→acc (nth c r)=nth a.2.1 r:=fun r hr=>by
  obtain ⟨hm,hp,hg⟩:=Gm _ ⟨r,hr,rfl⟩
  obtain ⟨h0,h1,h2⟩:=KS hm
  exact hacc _ _ hg.1 hg.2.1 hr.1 hr.2.1 (by rw[h2];exact hp) h2
 have hgn: ∀r,good n (live a) r→ ∀y,some y∈tx a c (live a) r→G y:=fun r hr y h=>by
  obtain ⟨k,hk,e⟩:=List.mem_map.1 h
  have hk:k<9:=List.mem_range.1 hk
  split at e
  ·rename_i hc
   exact ⟨mv a r k,⟨hc.1,(V.mv hr.1 hr.2.1 hk).2,hc.2⟩,Option.some.inj e⟩
  ·cases e
 unfold fw cg
 simp only[ez]
 rw[es,ei,OR V hn];simp only[Option.bind_some]
 rw[aw hst.1 (by omega)];simp only[Option.bind_some]
 cases hs:nth (live a) a.1 with
 | false =>
  have:=(hneg a.1 hst.1 hst.2).2 hs
  rw[Ek V hll hs,if_pos (by simpa using this),KH]
  exact ⟨nothing,rfl,rfl,Hk,Hn,V.pos⟩
 | true =>
  have hst':good n (live a) a.1:=⟨hst.1,hst.2,hs⟩
  have hp:=hpos _ hst'
  have H:NumOk nx (nth c a.1) G n:=⟨⟨a.1,hst',rfl⟩,fun x hx y hy=>hgn _ (Gm x hx).2.2 y hy,fun x hx=>by simp[nx,tx],fun l hd h=>Hj n l hd fun x hx=>by
   obtain ⟨r,hr,rfl⟩:=h x hx
   exact ⟨hpos r hr,hlt r hr.1 hr.2.1⟩⟩
  obtain ⟨N,hN,e1⟩:=SC (acc:=acc) V hn hcl hll hs H hn hnx hac
  have hfirst: ∀x,G x→aH x c=some (rep c x):=fun x hx=>Q7 (by omega) (Gm x hx).1
  obtain ⟨N',hN',e2⟩:=SB (most:=(c.length:Int)) (p2:=fun a0=>bN a0 (a.1,a.2.1,a.2.2) (fun a0=>aH a0 c)) (p3:=fun a0 a1=>bO a0 a1 (a.1,a.2.1,a.2.2) (fun a0=>aH a0 c) c) (acc:=acc) H hn (by omega) (fun x hx=>SH hn (Gm x hx).2.1 (by
    obtain ⟨r,hr,rfl⟩:=hx
    exact hlt r hr.1 hr.2.1)) (fun x hx=>by
   show bN x (a.1,a.2.1,a.2.2) (fun a0=>aH a0 c)=_
   unfold bN
   simp only
   rw[hfirst x hx];simp only[Option.bind_some]
   rw[V.acc (Gm x hx).2.2.1 (Gm x hx).2.2.2.1];rfl) (fun x k hx hk=>by
   obtain ⟨hm,hx0,hg⟩:=Gm x hx
   have hm':=V.mv hg.1 hg.2.1 hk
   refine ⟨0,?_⟩
   show bO x k (a.1,a.2.1,a.2.2) (fun a0=>aH a0 c) c=_
   unfold bO
   simp only
   rw[hfirst x hx];simp only[Option.bind_some]
   rw[show dt (a.1,a.2.1,a.2.2) (rep c x) k=some (mv a (rep c x) k) from So V hg.1 hg.2.1 hk];simp only[Option.bind_some]
   show _=some (match nth (tx a c (live a) (rep c x)) (k:Int) with | some y=>(y,true) | none=>(0,false))
   rw[FL hk]
   by_cases h:mv a (rep c x) k<0
   ·rw[if_pos (by simpa using h),if_neg (fun h'=>by omega)]
   ·rw[if_neg (by simpa using h),aw (by omega) (by omega)];simp only[Option.bind_some]
    have hng:=hneg (mv a (rep c x) k) (by omega) hm'.2
    cases hl:nth (live a) (mv a (rep c x) k) with
    | false =>
     have:=hng.2 hl
     rw[if_pos (by simpa using this),if_neg (fun h'=>by cases h'.2)]
    | true =>
     have: ¬nth c (mv a (rep c x) k)<0:=fun h'=>by have:=hng.1 h';rw[hl] at this;cases this
     rw[if_neg (by simpa using this),if_pos ⟨by omega,rfl⟩])
  obtain rfl:=Nc hN hN'
  have v:=SO (acc:=acc) H hN
  refine ⟨_,by rw[e1];rfl,?_,SI H hn hN,v.self,?_⟩
  rotate_left
  ·rw[v.len,hN.1];exact H.bound _ (k7 N) (iL H.g0 H.gn N)
  rw[if_neg (by simp;omega)]
  exact (congrArg (fun x=>Option.bind x _) e2).trans rfl
theorem NI (V:VA a n) (hn:n≤1000000): ∃r,fw a=some r∧cg a=some r∧Data.sm r:=by
 obtain ⟨r,h1,h2,h3,-⟩:=Ho V hn
 exact ⟨r,h1,h2,h3⟩
end
end D
namespace D
open Go.RowKit
theorem AZ:Data.sm ((0,[],[]):AutT):=⟨trivial,⟨by decide,fun _ h=>by cases h⟩,by decide,fun _ h=>by cases h⟩
theorem KT {κ:Type} [DecidableEq κ] {nx:κ→List (Option κ)} {first:κ} {acc:κ→Bool} {most:Nat} : ∀(f i:Nat),(∀j,j<i→j<(bfS nx first j).length)→(bfS nx first i).length≤most→goM nx first acc most f i=((0,[],[]),false)∨ ∃N,bfE nx first N∧N≤most∧goM nx first acc most f i=((0,(bfS nx first N).map acc,bfR nx first N),true)
 | 0,i,_,_=>.inl rfl
 | f+1,i,h,hl=>by
  have hle:=AS h
  rw[goM]
  by_cases c:i<(bfS nx first i).length
  ·rw[if_pos c]
   by_cases d:(bfS nx first (i+1)).length>most
   ·rw[if_pos d];exact .inl rfl
   ·rw[if_neg d]
    exact KT f (i+1) (fun j hj=>by
     by_cases e:j=i
     ·subst e;exact c
     ·exact h j (by omega)) (by omega)
  ·rw[if_neg c]
   exact .inr ⟨i,⟨by omega,h⟩,by omega,by rw[List.take_of_length_le (by omega)]⟩
theorem CN {e:List Tok} (he:e.length≤1048576): ∃r:AutT×Bool,fx e=some r∧fF e=some r∧Data.sm r.1:=by
 obtain ⟨⟨p,b⟩,e1,e2,h1,h2⟩:=qZ he
 have h1:p.2.2.2.1.length=p.1.length:=h1
 have h2:p.1.length≤100000:=h2
 unfold fx fF
 rw[e1,e2];simp only[Option.bind_some,ez]
 cases b with
 | false=>exact ⟨((0,[],[]),false),rfl,rfl,AZ⟩
 | true =>
  have d1:=T4 (p:=p) (most:=200) h1 (by omega) (by omega) (by omega)
  have d2:=T3 (p:=p) (most:=200) h1 (by omega) (by omega) (by omega)
  have d1:gf p 200=_:=d1
  have d2:fC p 200=_:=d2
  rw[d1,d2];simp only[if_true,Option.bind_some]
  rcases KT (nx:=nxS p) (first:=1) (acc:=sn p) (most:=200) (200+2) 0 (fun j hj=>by omega) (by simp[bfS]) with e | ⟨N,hN,hNm,e⟩
  ·rw[e]
   exact ⟨((0,[],[]),false),rfl,rfl,AZ⟩
  ·rw[e];simp only[if_true]
   have V:=Q6 (acc:=sn p) (AR p) hN
   obtain ⟨r,es,ei,hr⟩:=NI V (by omega)
   unfold wx
   rw[es];simp only[Option.bind_some,ez]
   rw[ei];simp only[Option.bind_some,ez]
   by_cases c:(r.2.1.length:Int)>12
   ·have c':decide ((r.2.1.length:Int)>12)=true:=decide_eq_true c
    simp only[c',if_true,Option.bind_some]
    exact ⟨((0,[],[]),false),rfl,rfl,AZ⟩
   ·have c':decide ((r.2.1.length:Int)>12)=false:=decide_eq_false c
    simp only[c',Bool.false_eq_true,if_false,Option.bind_some]
    exact ⟨(r,true),rfl,rfl,hr⟩
theorem Ep {e:List Tok} (he:e.length≤1048576): ∃r:AutT×Bool,fx e=some r∧fF e=some r∧Data.sm r.1:=CN he
end D
set_option synthInstance.maxSize 20000
set_option synthInstance.maxHeartbeats 2000000
namespace D
open Go.RowKit
theorem xz (x y:AutT) (hx:Data.sm x):dW x y=some (decide (x=y)):=by
 obtain ⟨-,⟨ha,-⟩,hn,hr⟩:=hx
 unfold dW
 by_cases c1:x.1=y.1
 case neg=>rw[if_pos (by simpa using c1)];simp[Prod.ext_iff,c1]
 rw[if_neg (by simpa using c1)]
 by_cases c2:x.2.1.length=y.2.1.length
 case neg=>rw[if_pos (by simp;omega)];simp[Prod.ext_iff];exact fun _ e=>absurd (by rw[e]) c2
 rw[if_neg (by simp;omega)]
 by_cases c3:x.2.2.length=y.2.2.length
 case neg=>rw[if_pos (by simp;omega)];simp[Prod.ext_iff];exact fun _ _ e=>absurd (by rw[e]) c3
 rw[if_neg (by simp;omega)]
 rw[eqB (f:=dH x y) x.2.1 y.2.1 (by omega) c2 (fun i h h'=>by
  simp only[dH,bp h,if_true,al h,al h',Option.bind_some,ae (show i<9223372036854775807 by omega)]
  by_cases c:x.2.1[i] =y.2.1[i] <;> simp[c]) (by simp only[dH,ba];rfl)]
 by_cases c4:x.2.1=y.2.1
 case neg=>rw[if_neg c4];simp[Prod.ext_iff,c4]
 rw[if_pos c4]
 rw[eqB (f:=dI x y) x.2.2 y.2.2 (by omega) c3 (fun i h h'=>by
  obtain ⟨r,e,hr'⟩:=AW x.2.2[i] y.2.2[i] ((hr _ (List.getElem_mem h)).1)
  simp only[dI,bp h,if_true,al h,al h',Option.bind_some,ae (show i<9223372036854775807 by omega),e]
  by_cases c:x.2.2[i] =y.2.2[i]
  ·rw[if_neg (by simpa using hr'.2 c),if_pos c]
  ·rw[if_pos (by simpa using fun e=>c (hr'.1 e)),if_neg c]) (by simp only[dI,ba];rfl)]
 by_cases c5:x.2.2=y.2.2
 ·rw[if_pos c5];simp[Prod.ext_iff,c1,c4,c5]
 ·rw[if_neg c5];simp[Prod.ext_iff,c5]
theorem NJ (xs ys:List Bool) (hN:xs.length≤9223372036854775807):cM xs ys=some (decide (xs=ys)):=
 eqL (f:=bw xs ys) xs ys hN (fun i h h'=>by
  simp only[bw,bp h,if_true,al h,al h',Option.bind_some,ae (show i<9223372036854775807 by omega)]
  by_cases c:xs[i] =ys[i] <;> simp[c]) (by simp only[bw,ba];rfl)
theorem xA (x y:AutT) (hx:Data.sm x):cR x y=some (decide (x=y)):=by
 obtain ⟨-,⟨ha,-⟩,hn,hr⟩:=hx
 unfold cR
 by_cases c1:x.1=y.1
 case neg=>rw[if_neg (by simpa using c1)];simp[Prod.ext_iff,c1]
 rw[if_pos (by simpa using c1),NJ _ _ (by omega)];simp only[Option.bind_some]
 by_cases c2:x.2.1=y.2.1
 case neg=>rw[if_neg (by simpa using c2)];simp[Prod.ext_iff,c2]
 rw[if_pos (by simpa using c2)]
 have:a7 x.2.2 y.2.2 (fun a0 a1=>eN a0 a1)=some (decide (x.2.2=y.2.2)):=
  eqL (f:=aD x.2.2 y.2.2 _) x.2.2 y.2.2 (by omega) (fun i h h'=>by
   simp only[aD,bp h,if_true,al h,al h',Option.bind_some,ae (show i<9223372036854775807 by omega),eN]
   rw[xt _ _ (by have:x.2.2[i].length≤1048576:=(hr _ (List.getElem_mem h)).1;omega)];simp only[Option.bind_some]
   by_cases c:x.2.2[i] =y.2.2[i] <;> simp[c]) (by simp only[aD,ba];rfl)
 rw[this]
 by_cases c3:x.2.2=y.2.2 <;> simp[Prod.ext_iff,c1,c2,c3]
abbrev QT:=Int×List Tok×Int
abbrev KU:=List AutT×List QT
theorem NK (x y:List Tok) (hx:x.length≤1048576):jt x y=some (decide (x=y)):=by
 unfold jt
 exact eqL (f:=fP x y) x y (by omega) (fun i h h'=>by
  simp only[fP,bp h,if_true,al h,al h',Option.bind_some,ez,ae (show i<9223372036854775807 by omega)]
  refine ep ?_;simp only[Bool.and_true,Bool.and_eq_true,beq_iff_eq];exact UH) (by simp only[fP,ba];rfl)
theorem KV (x y:List Tok) (hx:x.length≤1048576):bC x y=some (decide (x=y)):=by
 unfold bC
 exact eqL (f:=bm x y) x y (by omega) (fun i h h'=>by
  simp only[bm,bp h,if_true,al h,al h',Option.bind_some,ez,ae (show i<9223372036854775807 by omega)]
  refine ep ?_;simp only[Bool.and_true,Bool.and_eq_true,beq_iff_eq];exact UH) (by simp only[bm,ba];rfl)
theorem NL (x y:List Tok) (hx:x.length≤1048576):jz x y=some (decide (x=y)):=by
 unfold jz
 rw[KV x y hx];rfl
theorem A0 (x y:KU) (hx:Data.sm x):eI x y=some (decide (x=y)):=by
 obtain ⟨⟨ha,hA⟩,hq,hQ⟩:=hx
 unfold eI
 by_cases h1:x.1.length=y.1.length
 ·by_cases h2:x.2.length=y.2.length
  ·rw[if_neg (by rw[h1];simp),if_neg (by rw[h2];simp)]
   rw[eqB (f:=cZ x y) x.1 y.1 (by omega) h1 (fun i h h'=>by
    simp only[cZ,bp h,if_true,al h,al h',Option.bind_some,ez,xz x.1[i] y.1[i] (hA _ (List.getElem_mem h)),ae (show i<9223372036854775807 by omega)]
    exact ep (by simp)) (by simp only[cZ,ba];rfl)]
   rw[eqB (f:=c7 x y) x.2 y.2 (by omega) h2 (fun i h h'=>by
    have e:=NK x.2[i].2.1 y.2[i].2.1 (hQ _ (List.getElem_mem h)).2.1.1
    simp only[c7,bp h,if_true,al h,al h',Option.bind_some,e,ae (show i<9223372036854775807 by omega)]
    generalize x.2[i] =u;generalize y.2[i] =v
    by_cases e1:u.1=v.1 <;> by_cases e2:u.2.1=v.2.1 <;> by_cases e3:u.2.2=v.2.2 <;> simp[Prod.ext_iff,e1,e2,e3]) (by simp only[c7,ba];rfl)]
   by_cases e1:x.1=y.1 <;> by_cases e2:x.2=y.2 <;> simp[Prod.ext_iff,e1,e2]
  ·have:x.2≠y.2:=fun e=>h2 (by rw[e])
   rw[if_neg (by rw[h1];simp),if_pos (by simp;omega)];simp[Prod.ext_iff,this]
 ·have:x.1≠y.1:=fun e=>h1 (by rw[e])
  rw[if_pos (by simp;omega)];simp[Prod.ext_iff,this]
theorem Hq (x y:QT) (hx:Data.sm x):eY x y=some (decide (x=y)):=by
 unfold eY
 rw[NL x.2.1 y.2.1 hx.2.1.1];simp only[Option.bind_some]
 by_cases h1:x.1=y.1 <;> by_cases h2:x.2.1=y.2.1 <;> by_cases h3:x.2.2=y.2.2 <;> simp[Prod.ext_iff,h1,h2,h3]
theorem A1 (x y:KU) (hx:Data.sm x):eO x y=some (decide (x=y)):=by
 obtain ⟨⟨ha,hA⟩,hq,hQ⟩:=hx
 unfold eO
 have e:aB x.1 y.1 (fun a0 a1=>cR a0 a1)=some (decide (x.1=y.1)):=
  eqL (f:=ax x.1 y.1 _) x.1 y.1 (by omega) (fun i h h'=>by
   simp only[ax,bp h,if_true,al h,al h',Option.bind_some,ez,ae (show i<9223372036854775807 by omega),xA x.1[i] y.1[i] (hA _ (List.getElem_mem h))]
   exact ep (by simp)) (by simp only[ax,ba];rfl)
 have e':aA x.2 y.2 (fun a0 a1=>eY a0 a1)=some (decide (x.2=y.2)):=
  eqL (f:=au x.2 y.2 _) x.2 y.2 (by omega) (fun i h h'=>by
   simp only[au,bp h,if_true,al h,al h',Option.bind_some,ez,ae (show i<9223372036854775807 by omega),Hq x.2[i] y.2[i] (hQ _ (List.getElem_mem h))]
   exact ep (by simp)) (by simp only[au,ba];rfl)
 rw[e,e'];simp only[Option.bind_some]
 by_cases h1:x.1=y.1 <;> by_cases h2:x.2=y.2 <;> simp[Prod.ext_iff,h1,h2]
theorem pS {R S:Type} {f g:S→Option (Out R S)} (Inv:Nat→S→Prop) (h: ∀i s,Inv i s→g s=f s∧ ∀s',f s=some (.nxt s')→Inv (i+1) s'): ∀(k i:Nat) (s:S),Inv i s→ai g k s=ai f k s
 | 0,_,_,_=>rfl
 | k+1,i,s,hI=>by
  obtain ⟨h1,h2⟩:=h i s hI
  rw[ai,ai,h1]
  cases e:f s with
  | none=>rfl
  | some o =>
   cases o with
   | nxt s'=>exact pS Inv h k (i+1) s' (h2 s' e)
   | brk s'=>rfl
   | ret r=>rfl
theorem FQ {f g:Int→Option (Out Int Int)} (N:Nat) (hN:N≤1048576) (h: ∀i:Nat,i<N→f (i:Int)=some (.ret (i:Int))∨f (i:Int)=some (.nxt ((i+1:Nat):Int))) (he:f (N:Int)=some (.brk (N:Int))) (hfg: ∀i:Nat,i≤N→g (i:Int)=f (i:Int)) :
  ∃r:Int,aC (ai f aN 0) (fun r=>some r) (fun _=>some (-1))=some r∧aC (ai g aN 0) (fun r=>some r) (fun _=>some (-1))=some r∧(r= -1∨ ∃i:Nat,i<N∧r=(i:Int)):=by
 have hs:ai g aN 0=ai f aN 0:=pS (fun i s=>s=(i:Int)∧i≤N) (fun i s ⟨e,hi⟩=>by
  subst e
  refine ⟨hfg i hi,fun s' e=>?_⟩
  by_cases c:i<N
  ·rcases h i c with e2 | e2
   ·rw[e2] at e;cases e
   ·rw[e2] at e;cases e;exact ⟨rfl,c⟩
  ·obtain rfl:i=N:=by omega
   rw[he] at e;cases e) aN 0 0 ⟨rfl,Nat.zero_le _⟩
 rw[hs]
 obtain ⟨o,e,ho⟩:=cq (f:=f) (fun i s=>s=(i:Int)) (fun o=>o= .brk (N:Int)∨ ∃i:Nat,i<N∧o= .ret (i:Int)) N (fun i s hi hs=>by
  subst hs
  by_cases h1:i<N
  ·rcases h i h1 with h2 | h2
   ·exact .inr ⟨_,h2,(fun s' e=>by cases e),.inr ⟨i,h1,rfl⟩⟩
   ·exact .inl ⟨h1,_,h2,rfl⟩
  ·obtain rfl:i=N:=by omega
   exact .inr ⟨_,he,(fun s' e=>by cases e),.inl rfl⟩) (s:=0) rfl (fH _ (by omega))
 rw[e]
 rcases ho with rfl | ⟨i,hi,rfl⟩
 ·exact ⟨-1,rfl,rfl,.inl rfl⟩
 ·exact ⟨i,rfl,rfl,.inr ⟨i,hi,rfl⟩⟩
theorem Hr (l:List AutT) (a:AutT) (hl:l.length≤1048576) (hs: ∀x∈l,Data.sm x) (ha:Data.sm a): ∃r:Int,jJ l a=some r∧aE l (fun a0=>jL a0 a)=some r∧(r= -1∨ ∃i:Nat,i<l.length∧r=(i:Int)):=by
 unfold jJ aE
 have hf: ∀i (h:i<l.length),fy l a (i:Int)=if l[i] =a then some (.ret (i:Int)) else some (.nxt ((i+1:Nat):Int)):=fun i h=>by
  simp only[fy,bp h,if_true,al h,Option.bind_some,ez,xz l[i] a (hs _ (List.getElem_mem h)),ae (show i<9223372036854775807 by omega)]
  by_cases c:l[i] =a <;> simp[c]
 refine FQ l.length hl (fun i h=>?_) (by simp only[fy,ba];rfl) (fun i hi=>?_)
 ·rw[hf i h];by_cases c:l[i] =a <;> simp[c]
 ·by_cases h:i<l.length
  ·rw[hf i h]
   simp only[bd,jL,bp h,if_true,al h,Option.bind_some,ez,xA a l[i] ha,ae (show i<9223372036854775807 by omega)]
   by_cases c:l[i] =a
   ·simp[c]
   ·have: ¬a=l[i]:=fun e=>c e.symm
    simp[c,this]
  ·obtain rfl:i=l.length:=by omega
   simp only[fy,bd,ba];rfl
def Er (n i:Nat) (s:Int×List AutT×List QT):Prop:=s.1=(i:Int)∧i≤n∧s.2.2.length=i∧s.2.1.length≤i∧(∀a∈s.2.1,Data.sm a)∧ ∀q∈s.2.2,Data.sm q∧0≤q.2.2∧q.2.2<(s.2.1.length:Int)
theorem FR {qs:List QT} (hq:Data.sm qs) {i:Nat} {s:Int×List AutT×List QT} (hI:Er qs.length i s):iB qs s=cw qs s ∧
  ((i<qs.length∧ ∃s',cw qs s=some (.nxt s')∧Er qs.length (i+1) s')∨ ∃o,cw qs s=some o∧(∀s',o≠ .nxt s')∧(o= .ret (([],[]),false)∨o= .brk s∧i=qs.length)):=by
 obtain ⟨hn,hs⟩:=aG hq
 obtain ⟨s1,A,Q⟩:=s
 obtain ⟨h1,h2,h3,h4,h5,h6⟩:=hI
 simp only at h1 h3 h4 h5 h6
 subst h1
 by_cases hi:i<qs.length
 ·have hqi:=hs _ (List.getElem_mem hi)
  obtain ⟨r,es,ei,hr⟩:=Ep (e:=qs[i].2.1) hqi.2.1.1
  obtain ⟨k,ks,ki,hk⟩:=Hr A r.1 (by omega) h5 hr
  have a1:cN 56 A [r.1] =some (A++ [r.1]):=az (by simp;omega)
  have a2: ∀y,cN 40 Q [y] =some (Q++ [y]):=fun y=>az (by simp;omega)
  have a3:iX qs[i].2.1=some qs[i].2.1:=by unfold iX;rw[az (by have:=hqi.2.1.1;simp;omega)];rfl
  have a4:jM qs[i].2.1=some qs[i].2.1:=by unfold jM;rw[az (by have:=hqi.2.1.1;simp;omega)];rfl
  unfold iB cw
  simp only[bp hi,if_true,al hi,Option.bind_some,es,ei,Ke,Ec,ez,ks,ki,a1,a2,a3,a4,ae (show i<9223372036854775807 by omega)]
  by_cases c1:r.2=true
  case neg =>
   simp only[c1,Bool.false_eq_true,if_false]
   exact ⟨by first | trivial | rfl,.inr ⟨_,rfl,(fun s' e=>by cases e),.inl rfl⟩⟩
  simp only[c1,if_true]
  by_cases c2:1≤qs[i].1∧qs[i].1≤99
  case neg =>
   simp only[c2,decide_false,Bool.false_eq_true,if_false]
   exact ⟨by first | trivial | rfl,.inr ⟨_,rfl,(fun s' e=>by cases e),.inl rfl⟩⟩
  simp only[c2,decide_true,if_true]
  have fin: ∃s':Int×List AutT×List QT,(∀(y:Option (Out (KU×Bool) (Int×List AutT×List QT))),True)∧(Option.bind (if decide (k<0) then some ((A.length:Int),A++ [r.1],Q) else some (k,A,Q)) fun s10:Int×List AutT×List QT=>(cN 40 s10.2.2 [(qs[i].1,qs[i].2.1,s10.1)]).bind fun z18=>some (.nxt (((i+1:Nat):Int),s10.2.1,z18)):Option (Out (KU×Bool) (Int×List AutT×List QT)))=some (.nxt s')∧Er qs.length (i+1) s':=by
   rcases hk with rfl | ⟨j,hj,rfl⟩
   ·refine ⟨(((i+1:Nat):Int),A++ [r.1],Q++ [(qs[i].1,qs[i].2.1,(A.length:Int))]),fun _=>trivial,?_,rfl,hi,by simp;omega,by simp;omega,fun a ha=>?_,fun q hq'=>?_⟩
    ·simp only[show decide ((-1:Int)<0)=true from rfl,if_true,Option.bind_some,a2]
    ·simp only[List.mem_append,List.mem_singleton] at ha
     rcases ha with ha | rfl
     ·exact h5 a ha
     ·exact hr
    ·simp only[List.mem_append,List.mem_singleton] at hq'
     simp only[List.length_append,List.length_singleton]
     rcases hq' with hq' | rfl
     ·obtain ⟨b1,b2,b3⟩:=h6 q hq'
      exact ⟨b1,b2,by omega⟩
     ·exact ⟨⟨trivial,hqi.2.1,trivial⟩,by simp,by simp;omega⟩
   ·refine ⟨(((i+1:Nat):Int),A,Q++ [(qs[i].1,qs[i].2.1,(j:Int))]),fun _=>trivial,?_,rfl,hi,by simp;omega,by simp only;omega,h5,fun q hq'=>?_⟩
    ·have:decide ((j:Int)<0)=false:=by simp
     simp only[this,Bool.false_eq_true,if_false,Option.bind_some,a2]
    ·simp only[List.mem_append,List.mem_singleton] at hq'
     rcases hq' with hq' | rfl
     ·exact h6 q hq'
     ·exact ⟨⟨trivial,hqi.2.1,trivial⟩,by simp,by simp;omega⟩
  obtain ⟨s',-,e,hI'⟩:=fin
  by_cases c3:(i:Int)>0
  ·have hp:i - 1<qs.length:=by omega
   have hw:IntKind.i64.wrap ((i:Int) - 1)=((i - 1:Nat):Int):=by rw[mN (by omega)];omega
   simp only[c3,decide_true,if_true,hw,al hp,Option.bind_some]
   by_cases c4:qs[i - 1].1≥qs[i].1
   ·simp only[c4,decide_true,if_true]
    exact ⟨by first | trivial | rfl,.inr ⟨_,rfl,(fun s' e=>by cases e),.inl rfl⟩⟩
   ·simp only[c4,decide_false,Bool.false_eq_true,if_false]
    exact ⟨by first | trivial | rfl,.inl ⟨hi,s',e,hI'⟩⟩
  ·simp only[c3,decide_false,Bool.false_eq_true,if_false]
   exact ⟨by first | trivial | rfl,.inl ⟨hi,s',e,hI'⟩⟩
 ·obtain rfl:i=qs.length:=by omega
  unfold iB cw
  simp only[ba,Bool.false_eq_true,if_false]
  exact ⟨by first | trivial | rfl,.inr ⟨_,rfl,(fun s' e=>by cases e),.inr (by first | exact ⟨rfl,rfl⟩ | exact ⟨trivial,rfl⟩ | exact ⟨rfl,trivial⟩ | simp)⟩⟩
def RegOk (r:KU):Prop:=Data.sm r∧ ∀q∈r.2,0≤q.2.2∧q.2.2<(r.1.length:Int)
theorem NM {qs:List QT} (hq:Data.sm qs): ∃r:KU,∃b:Bool,lB qs=(if (qs.length:Int)>4 then some (([],[]),false) else some (r,b))∧pI qs=some (r,b&&decide ((qs.length:Int)≤4))∧RegOk r:=by
 have hn:=(aG hq).1
 have h0:Er qs.length 0 (0,[],[]):=⟨rfl,Nat.zero_le _,rfl,Nat.le_refl _,fun _ h=>(by cases h),fun _ h=>(by cases h)⟩
 have hs:ai (iB qs) aN (0,[],[])=ai (cw qs) aN (0,[],[]):=pS (Er qs.length) (fun i s hI=>by
  obtain ⟨e,h⟩:=FR hq hI
  refine ⟨e,fun s' e'=>?_⟩
  rcases h with ⟨_,s2,e2,hI2⟩ | ⟨o,e2,hne,-⟩
  ·rw[e2] at e';cases e';exact hI2
  ·rw[e2] at e';cases e';exact absurd rfl (hne s')) aN 0 _ h0
 obtain ⟨o,e,ho⟩:=cq (f:=cw qs) (Er qs.length) (fun o=>o= .ret (([],[]),false)∨ ∃A Q,o= .brk ((qs.length:Int),A,Q)∧Er qs.length qs.length ((qs.length:Int),A,Q)) qs.length (fun i s hi hI=>by
  rcases (FR hq hI).2 with h | ⟨o,e,hne,h⟩
  ·exact .inl h
  ·refine .inr ⟨o,e,hne,?_⟩
   rcases h with h | ⟨h,rfl⟩
   ·exact .inl h
   ·obtain ⟨s1,A,Q⟩:=s
    obtain ⟨rfl,-⟩:=id hI
    exact .inr ⟨A,Q,h,hI⟩) h0 (fH _ (by omega))
 unfold lB pI
 rw[hs,e]
 rcases ho with rfl | ⟨A,Q,rfl,-,-,h3,h4,h5,h6⟩
 ·refine ⟨([],[]),false,?_,rfl,⟨⟨Nat.zero_le _,fun _ h=>(by cases h)⟩,Nat.zero_le _,fun _ h=>(by cases h)⟩,fun _ h=>(by cases h)⟩
  by_cases c:(qs.length:Int)>4 <;> simp[c,aC]
 ·simp only at h3 h4 h5 h6
  refine ⟨(A,Q),true,?_,by simp[aC],⟨⟨show A.length≤1048576 by omega,h5⟩,show Q.length≤1048576 by omega,fun q h=>(h6 q h).1⟩,fun q h=>(h6 q h).2⟩
  by_cases c:(qs.length:Int)>4 <;> simp[c,aC]
theorem Hs {r:KU} (hr:Data.sm r): ∃b,eJ r=some b∧eP r=some b∧(b=true→RegOk r):=by
 obtain ⟨x,b,e1,e2,hx⟩:=NM hr.2
 unfold eJ eP
 rw[e1,e2]
 by_cases c:(r.2.length:Int)>4
 ·have c': ¬(r.2.length:Int)≤4:=by omega
  exact ⟨false,by simp[c],by simp[c'],fun e=>by cases e⟩
 ·have c':(r.2.length:Int)≤4:=by omega
  cases b with
  | false=>exact ⟨false,by simp[c],by simp,fun e=>by cases e⟩
  | true =>
   simp only[c,if_false,Option.bind_some,if_true,c',decide_true,Bool.and_true,ez,A0 x r hx.1,A1 x r hx.1]
   exact ⟨_,rfl,rfl,fun e=>by rw[←of_decide_eq_true e];exact hx⟩
end D
set_option synthInstance.maxSize 20000
set_option synthInstance.maxHeartbeats 2000000
namespace D
open Go.RowKit
abbrev Q8:=Int×(List GrT)
abbrev T9:=Int×Int×Int
theorem zm {g:GrT} (hg:Data.sm g): ∃b,bH g=some b:=by
 obtain ⟨b,e,_⟩:=No g (aG hg.1).1 (aG hg.2).1
 exact ⟨b,e⟩
def okG (h:Q8) (g:GrT):Prop:=bH g=some true∧g.1=(nth h.2 0).1
instance (h g):Decidable (okG h g):=by unfold okG;infer_instance
theorem KW (h:Q8) (hh:Data.sm h): ∃b,m_s_IsValidHistory h=some b∧m_i_IsValidHistory h=some b∧(b=true→(1≤h.2.length∧h.2.length≤8)∧1≤h.1∧h.1≤1000 - (h.2.length:Int)):=by
 obtain ⟨hl,hs⟩:=aG hh.2
 have ew:IntKind.i64.wrap ((IntKind.i64.wrap (999 - (h.2.length:Int)))+1)=1000 - (h.2.length:Int):=by
  rw[dC (n:=999 - (h.2.length:Int)) (by omega) (by omega),dC (by omega) (by omega)];omega
 have ks:=scan (f:=dk h) h.2 (okG h) false (by omega) (fun i hi=>by
  have hg:=hs _ (iK (xs:=h.2) (i:=(i:Int)) (by omega) (by omega))
  obtain ⟨b,e⟩:=zm hg
  obtain ⟨r,er,hr⟩:=AW (nth h.2 (i:Int)).1 (nth h.2 0).1 (aG hg.1).1
  have e':eW ((nth h.2 (i:Int)).1,(nth h.2 (i:Int)).2)=some b:=by rw[Kr];exact e
  have hk:okG h (nth h.2 (i:Int))↔b=true∧(nth h.2 (i:Int)).1=(nth h.2 0).1:=by unfold okG;rw[e];simp
  unfold dk
  rw[if_pos (by simp;omega),aw (by omega) (by omega)];simp only[Option.bind_some]
  rw[e',aw (xs:=h.2) (i:=0) (by omega) (by omega)];simp only[Option.bind_some]
  rw[er,ae (by omega)];simp only[Option.bind_some]
  cases b with
  | false=>rw[if_neg (by decide),if_neg (fun c=>by cases (hk.1 c).1)]
  | true =>
   rw[if_pos rfl]
   by_cases c:r=0
   ·rw[if_neg (by simp[c]),if_pos (hk.2 ⟨rfl,hr.1 c⟩)]
   ·rw[if_pos (by simpa using c),if_neg (fun k=>c (hr.2 (hk.1 k).2))]) (by unfold dk;simp)
 have ki:=scan (f:=dn h) h.2 (okG h) false (by omega) (fun i hi=>by
  have hg:=hs _ (iK (xs:=h.2) (i:=(i:Int)) (by omega) (by omega))
  obtain ⟨b,e⟩:=zm hg
  have er:=xt (nth h.2 (i:Int)).1 (nth h.2 0).1 (by have:=(aG hg.1).1;omega)
  have e':bH ((nth h.2 (i:Int)).1,(nth h.2 (i:Int)).2)=some b:=e
  have hk:okG h (nth h.2 (i:Int))↔b=true∧(nth h.2 (i:Int)).1=(nth h.2 0).1:=by unfold okG;rw[e];simp
  unfold dn
  rw[if_pos (by simp;omega),aw (by omega) (by omega)];simp only[Option.bind_some]
  rw[e',aw (xs:=h.2) (i:=0) (by omega) (by omega)];simp only[Option.bind_some]
  rw[er,ae (by omega)];simp only[Option.bind_some]
  cases b with
  | false=>rw[if_neg (by decide),if_neg (fun c=>by cases (hk.1 c).1)]
  | true =>
   rw[if_pos rfl]
   by_cases c:(nth h.2 (i:Int)).1=(nth h.2 0).1
   ·rw[if_pos (decide_eq_true c),if_pos (hk.2 ⟨rfl,c⟩)]
   ·rw[if_neg (by simpa using c),if_neg (fun k=>c (hk.1 k).2)]) (by unfold dn;simp)
 unfold m_s_IsValidHistory m_i_IsValidHistory
 rw[Ke,Ke,Ec,Ec,ew];simp only[Option.bind_some]
 by_cases c1:(1:Int)≤(h.2.length:Int)∧(h.2.length:Int)≤8
 ·by_cases c2:1≤h.1∧h.1≤1000 - (h.2.length:Int)
  ·rw[decide_eq_true c1,decide_eq_true c2];simp only[if_true]
   rcases ks with ⟨es,k1⟩ | ⟨es,k1⟩ <;> rcases ki with ⟨ei,k2⟩ | ⟨ei,k2⟩
   ·rw[aj es,aj ei]
    exact ⟨true,rfl,rfl,fun _=>⟨by omega,c2⟩⟩
   ·exact absurd k1 k2
   ·exact absurd k2 k1
   ·rw[bR es,bR ei]
    exact ⟨false,rfl,rfl,fun c=>by cases c⟩
  ·rw[decide_eq_true c1,decide_eq_false c2];simp only[if_true,Bool.false_eq_true,if_false]
   rcases ks with ⟨es,k1⟩ | ⟨es,k1⟩
   ·rw[aj es];exact ⟨false,rfl,rfl,fun c=>by cases c⟩
   ·rw[bR es];exact ⟨false,rfl,rfl,fun c=>by cases c⟩
 ·rw[decide_eq_false c1];simp only[Bool.false_eq_true,if_false]
  rcases ks with ⟨es,k1⟩ | ⟨es,k1⟩
  ·rw[aj es];exact ⟨false,rfl,rfl,fun c=>by cases c⟩
  ·rw[bR es];exact ⟨false,rfl,rfl,fun c=>by cases c⟩
def latV (h:Q8):Int:=h.1+(h.2.length:Int) - 1
theorem KX {h:Q8} (hs:m_s_IsValidHistory h=some true) (hi:m_i_IsValidHistory h=some true) (k:(1≤h.2.length∧h.2.length≤8)∧1≤h.1∧h.1≤1000 - (h.2.length:Int)):bK h=some (latV h)∧fT h=some (latV h):=by
 unfold bK fT latV
 have hs:m_s_IsValidHistory (h.1,h.2)=_:=hs
 have hi:m_i_IsValidHistory (h.1,h.2)=_:=hi
 rw[hs,hi];simp only[Option.bind_some,if_true]
 rw[dC (n:=h.1+(h.2.length:Int)) (by omega) (by omega),dC (by omega) (by omega)]
 exact ⟨rfl,rfl⟩
end D
set_option synthInstance.maxSize 20000
set_option synthInstance.maxHeartbeats 2000000
namespace D
open Go.RowKit
end D
set_option synthInstance.maxSize 20000
set_option synthInstance.maxHeartbeats 2000000
namespace D
open Go.RowKit
theorem KY (r:KU) (id:Int) (hl:r.2.length≤1048576): ∃k:Int,iu r id=some k∧iD r id=some k∧(k= -1∨ ∃i:Nat,i<r.2.length∧k=(i:Int)):=by
 unfold iu iD bh
 have hf: ∀i (h:i<r.2.length),de r id (i:Int)=if r.2[i].1=id then some (.ret (i:Int)) else some (.nxt ((i+1:Nat):Int)):=fun i h=>by
  simp only[de,bp h,if_true,al h,Option.bind_some,ae (show i<9223372036854775807 by omega)]
  by_cases c:r.2[i].1=id <;> simp[c]
 obtain ⟨k,e1,e2,h⟩:=FQ (f:=de r id) (g:=aL r.2 fun a0=>iC a0 id) r.2.length hl (fun i h=>by
  rw[hf i h];by_cases c:r.2[i].1=id <;> simp[c]) (by simp only[de,ba];rfl) (fun i hi=>by
  by_cases h:i<r.2.length
  ·rw[hf i h]
   simp only[aL,iC,bp h,if_true,al h,Option.bind_some,ae (show i<9223372036854775807 by omega)]
   by_cases c:r.2[i].1=id <;> simp[c]
  ·obtain rfl:i=r.2.length:=by omega
   simp only[de,aL,ba];rfl)
 refine ⟨k,e1,?_,h⟩
 rw[e2];rfl
end D
set_option synthInstance.maxSize 20000
set_option synthInstance.maxHeartbeats 2000000
namespace D
open Go.RowKit
abbrev EngT:=Q8×KU×List T9×ByteArray
theorem FU {h:Q8} {r:KU} {ss:List T9} {lg:ByteArray} {v:Int} (hs:bK h=some v) (hr:r.2.length≤1048576) (hn:ss.length≤1048576) {i:Nat} (h1:i<ss.length) :
  bB (h,r,ss,lg) v (i:Int)=bU (h,r,ss,lg) (i:Int)∧(bU (h,r,ss,lg) (i:Int)=some (.nxt ((i+1:Nat):Int))∨bU (h,r,ss,lg) (i:Int)=some (.ret false)):=by
 obtain ⟨k,k1,k2,-⟩:=KY r ss[i].2.1 hr
 have hw:IntKind.i64.wrap ((i:Int)+1)=((i+1:Nat):Int):=ae (by omega)
 unfold bB bU
 simp only[ez,bp h1,if_true,al h1,Option.bind_some,Ke,Ec,k1,k2,hs,hw]
 by_cases c:decide ((i:Int)>0)=true
 ·have g:aF ss (IntKind.i64.wrap ((i:Int) - 1))=some (nth ss ((i:Int) - 1)):=by
   have:(i:Int)>0:=of_decide_eq_true c
   rw[mN (by omega),aw (by omega) (by omega)]
  simp only[if_pos c,g,Option.bind_some]
  refine ⟨trivial,?_⟩
  repeat' split
  all_goals first | exact .inr rfl | exact .inl rfl
 ·simp only[if_neg c]
  refine ⟨trivial,?_⟩
  repeat' split
  all_goals first | exact .inr rfl | exact .inl rfl
theorem NN {h:Q8} {r:KU} {ss:List T9} {lg:ByteArray} {v:Int} (hs:bK h=some v) (hr:r.2.length≤1048576) (hn:ss.length≤1048576): ∃o,ai (bU (h,r,ss,lg)) aN 0=some o∧ai (bB (h,r,ss,lg) v) aN 0=some o∧(o= .ret false∨ ∃s,o= .brk s):=by
 have hend:bU (h,r,ss,lg) (ss.length:Int)=some (.brk (ss.length:Int)):=by
  unfold bU
  simp only[]
  rw[ba];rfl
 have hend2:bB (h,r,ss,lg) v (ss.length:Int)=some (.brk (ss.length:Int)):=by
  unfold bB
  simp only[]
  rw[ba];rfl
 obtain ⟨o,e,hQ⟩:=cq (f:=bU (h,r,ss,lg)) (fun i s=>s=(i:Int)) (fun o=>o= .ret false∨ ∃s,o= .brk s) ss.length (fun i s hi hI=>by
  subst hI
  by_cases h1:i<ss.length
  ·rcases (FU (lg:=lg) hs hr hn h1).2 with k | k
   ·exact .inl ⟨h1,_,k,rfl⟩
   ·exact .inr ⟨_,k,fun s' h=>(by simp at h),.inl rfl⟩
  ·obtain rfl:i=ss.length:=by omega
   exact .inr ⟨_,hend,fun s' h=>(by simp at h),.inr ⟨_,rfl⟩⟩) (s:=(0:Int)) rfl (fH _ (by omega))
 refine ⟨o,e,?_,hQ⟩
 rw[←e]
 refine pS (f:=bU (h,r,ss,lg)) (g:=bB (h,r,ss,lg) v) (fun i s=>s=(i:Int)∧i≤ss.length) (fun i s hI=>?_) aN 0 0 ⟨rfl,Nat.zero_le _⟩
 obtain ⟨rfl,hi⟩:=hI
 by_cases h1:i<ss.length
 ·obtain ⟨a,b⟩:=FU (lg:=lg) hs hr hn h1
  refine ⟨a,fun s' hs'=>?_⟩
  rcases b with b | b
  ·rw[b] at hs'
   obtain rfl:=Option.some.inj hs' |> Out.nxt.inj
   exact ⟨rfl,h1⟩
  ·rw[b] at hs';simp at hs'
 ·obtain rfl:i=ss.length:=by omega
  exact ⟨by rw[hend,hend2],fun s' hs'=>by rw[hend] at hs';simp at hs'⟩
structure EngOk (e:EngT):Prop where
 hs:m_s_IsValidHistory e.1=some true
 hi:m_i_IsValidHistory e.1=some true
 hb:(1≤e.1.2.length∧e.1.2.length≤8)∧1≤e.1.1∧e.1.1≤1000 - (e.1.2.length:Int)
 reg:RegOk e.2.1
 sub:e.2.2.1.length≤4
 log:e.2.2.2.size≤4000
 sc: ∃(r:List Int) (q:List (List ChT)) (n:Nat),m_s_ScanLog e.2.2.2=some (r,q,(n:Int))∧m_i_ScanLog e.2.2.2=some (r,q,(n:Int))∧r.length≤4000∧ScOk r q∧totL r q r.length≤4000∧(r.length=0∨nth r ((r.length:Int) - 1)=latV e.1)
theorem NO (e:EngT) (he:Data.sm e): ∃b,fQ e=some b∧fU e=some b∧(b=true→EngOk e):=by
 obtain ⟨h,r,ss,lg⟩:=e
 obtain ⟨sh,sr,ssb,slg⟩:=he
 obtain ⟨b1,e1,e2,k1⟩:=KW h sh
 obtain ⟨b2,f1,f2,k2⟩:=Hs sr
 have slg:lg.size≤1048576:=slg
 obtain ⟨l,rfl⟩:=Sp lg
 have hlz:(mkB l).size=l.length:=bc l
 have hl:l.length≤1048576:=by rw[←hlz];exact slg
 unfold fQ fU qF sO
 simp only[ez,e1,e2,f1,f2,Option.bind_some,hlz]
 cases b1 with
 | false=>exact ⟨false,rfl,rfl,fun c=>by cases c⟩
 | true =>
  cases b2 with
  | false=>exact ⟨false,rfl,rfl,fun c=>by cases c⟩
  | true =>
   obtain ⟨l1,l2⟩:=KX e1 e2 (k1 rfl)
   obtain ⟨o,o1,o2,ho⟩:=NN (h:=h) (r:=r) (ss:=ss) (lg:=mkB l) l1 (aG sr.2).1 (aG ssb).1
   obtain ⟨vs,bs,n,g1,g2,g3,g4,g5,g6⟩:=CG l (by omega)
   simp only[if_true,l1,l2,g1,g2,Option.bind_some,o1,o2]
   by_cases c1:(ss.length:Int)≤4
   ·rw[if_neg (show¬decide ((ss.length:Int)>4)=true by rw[decide_eq_true_eq];omega),decide_eq_true c1]
    by_cases c2:(l.length:Int)≤4000
    ·rw[if_neg (show¬decide ((l.length:Int)>4000)=true by rw[decide_eq_true_eq];omega)]
     rcases ho with rfl | ⟨s,rfl⟩
     ·exact ⟨false,rfl,rfl,fun c=>by cases c⟩
     ·simp only[aC,if_true,Option.bind_some]
      by_cases c3:((n:Int)==(l.length:Int))=true
      ·simp only[if_pos c3,if_pos (decide_eq_true c2)]
       by_cases c4:((vs.length:Int)==0)=true
       ·simp only[if_pos c4,Option.bind_some]
        exact ⟨true,rfl,rfl,fun _=>⟨e1,e2,k1 rfl,k2 rfl,by show ss.length≤4;omega,by show (mkB l).size≤4000;omega,vs,bs,n,g1,g2,g4,g5,by omega,.inl (by have:=eq_of_beq c4;omega)⟩⟩
       ·have hp:0<vs.length:=by
         rcases Nat.eq_zero_or_pos vs.length with q | q
         ·exact absurd (by rw[q];rfl) c4
         ·exact q
        simp only[if_neg c4,mN (show vs.length≤9223372036854775807 by omega),aw (xs:=vs) (i:=(vs.length:Int) - 1) (by omega) (by omega),Option.bind_some]
        refine ⟨_,rfl,rfl,fun c=>⟨e1,e2,k1 rfl,k2 rfl,by show ss.length≤4;omega,by show (mkB l).size≤4000;omega,vs,bs,n,g1,g2,g4,g5,by omega,.inr (eq_of_beq c)⟩⟩
      ·simp only[if_neg c3,Option.bind_some]
       exact ⟨false,rfl,rfl,fun c=>by cases c⟩
    ·rw[if_pos (decide_eq_true (show (l.length:Int)>4000 by omega))]
     rcases ho with rfl | ⟨s,rfl⟩
     ·exact ⟨false,rfl,rfl,fun c=>by cases c⟩
     ·simp only[aC,if_true,Option.bind_some]
      by_cases c3:((n:Int)==(l.length:Int))=true
      ·simp only[if_pos c3,if_neg (show¬decide ((l.length:Int)≤4000)=true by rw[decide_eq_true_eq];exact c2),Option.bind_some]
       exact ⟨false,rfl,rfl,fun c=>by cases c⟩
      ·simp only[if_neg c3,Option.bind_some]
       exact ⟨false,rfl,rfl,fun c=>by cases c⟩
   ·rw[if_pos (decide_eq_true (show (ss.length:Int)>4 by omega)),decide_eq_false c1]
    rcases ho with rfl | ⟨s,rfl⟩
    ·exact ⟨false,rfl,rfl,fun c=>by cases c⟩
    ·exact ⟨false,rfl,rfl,fun c=>by cases c⟩
end D
set_option synthInstance.maxSize 20000
set_option synthInstance.maxHeartbeats 2000000
namespace D
open Go.RowKit
theorem uW (x:EngT) (hx:Data.lim x):cE x=some true:=by
 unfold cE
 simp only[ez]
 obtain ⟨r1,e1,k1⟩:=G7 x 1048576 hx (by decide) (by decide)
 rw[e1];simp only[Option.bind_some]
 rcases k1 with k1 | ⟨k1,j1,s1⟩
 ·rw[if_pos (decide_eq_true k1)]
 rw[if_neg (by simpa using k1)]
 obtain ⟨b,es,ei,-⟩:=NO x s1
 simp only[Ha x s1,es,ei,He x x s1 s1,Option.bind_some,ez,decide_true,if_true]
 simp only[bne_self_eq_false,Bool.false_eq_true,if_false]
end D
open Go.ChangeShapes Go.WideShapes Go.ChangeAt Go.RowKit
theorem own:ownKnob Tryz.prog.godebug=none:=by kernel_rfl
theorem laidOut:laidOutB Tryz.prog=true:=by kernel_rfl
theorem so {H:Type} {enc:TypeId×Value→H} {P:Program} (hl:laidOutB P=true) {W W':World} (hb:Below W.heap.size W W') :
  ∀ {ts:List TypeId} {vs:List Value} {ds:List (DataW H)} {ps:List MemPlace},(∀t∈ts,P.readableRec t=true∧t<P.types.size)→
   DataW.TrodAll enc P W 0 (fun _=>true) true ts vs ds ps→(∀x∈ps,x.block<W.heap.size)→DataW.TrodAll enc P W' 0 (fun b=>decide (b<W.heap.size)) true ts vs ds ps
 | [],[],[],ps,_,h,_=>h
 | t::ts,v::vs,d::ds,ps,hr,⟨p,q,h1,h2,h3⟩,hlt=>by
  subst h3
  exact ⟨p,q,Below.trod hl (hr t (by simp)).1 (hr t (by simp)).2 h1 hb fun x hx=>hlt x (by simp[hx]),so hl hb (fun t ht=>hr t (by simp[ht])) h2 fun x hx=>hlt x (by simp[hx]),rfl⟩
 | [],_::_,_,_,_,h,_=>h.elim
 | [],[],_::_,_,_,h,_=>h.elim
 | _::_,[],_,_,_,h,_=>h.elim
 | _::_,_::_,[],_,_,h,_=>h.elim
theorem NP {H:Type} {enc:TypeId×Value→H} {f:Func} {s:ChangeSpec} {W W':World} {args:Array Value} {ds:List (DataW H)} {before:List MemPlace} (tb:TypeId)
  (hb:Tryz.prog.underlying tb=some .bool) (hr:f.resultTypes= #[tb]) (hp:(f.params.toList.all fun t=>Tryz.prog.readableRec t&&decide (t<Tryz.prog.types.size))=true) (hv:s.vars= [])
  (hW:DataW.Whole enc Tryz.prog f.params.toList s.vars false W args.toList ds [] before) (hres:(s.fn H (ds++ [])).results= [.lit (.bool true)]) (hargs:(s.fn H (ds++ [])).args=ds) (hvars:(s.fn H (ds++ [])).vars= [])
  (hbel:Below W.heap.size W W'):s.post enc Tryz.prog f false true false false W args (.bool true) W':=by
 obtain ⟨p,q,h1,h2,h3,h4,h5⟩:=hW
 have hW':DataW.Whole enc Tryz.prog f.params.toList s.vars false W args.toList ds [] before:=⟨p,q,h1,h2,h3,h4,h5⟩
 have hq:q= []:=by rw[hv] at h2;exact h2
 subst hq
 simp only[List.append_nil] at h3
 subst h3
 refine ⟨ds,[],before,[],before,[],hW',?_,?_,?_,hbel.frame _,fun h=>by cases h⟩
 ·rw[hres,hr]
  exact trodAll_mk1 (shut_bool hb true)
 ·rw[hargs]
  exact so laidOut hbel (fun t ht=>by have:=List.all_eq_true.1 hp t ht;simpa using this) h1 fun x hx=>by simpa using hW'.lt x hx
 ·rw[hvars,hv];rfl
end Go.Proofs.YtilionjghdjbdaaGreatDoor
