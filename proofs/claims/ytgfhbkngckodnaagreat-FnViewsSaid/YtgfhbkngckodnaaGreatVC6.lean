/- FnViews: for every input the law returns true and changes nothing that was there. Part 7 of 7. -/
import Derived.Test.YtgfhbkngckodnaaGreatVC5
set_option linter.unusedVariables false
set_option linter.unusedSimpArgs false
set_option linter.unnecessarySimpa false
set_option linter.unusedSectionVars false
set_option maxRecDepth 1000000
namespace Go.Proofs.YtgfhbkngckodnaaGreat
set_option synthInstance.maxSize 20000
set_option synthInstance.maxHeartbeats 2000000
namespace D
open Go.RowKit
theorem F5 (a:AutT) (ha:Data.sm a):fV a=some a:=by
 obtain ⟨-,⟨hb,-⟩,hn,hr⟩:=ha
 unfold fV
 rw[aR (by simp;omega)];simp only[aa,List.nil_append]
 have:=ba (f:=fH a) (fun i=>((i:Int),a.1,a.2.1,a.2.2.take i)) a.2.2.length (fun i hi=>by
  unfold fH
  have h1:cE 8 ([] :List Int) a.2.2[i] =some a.2.2[i]:=by rw[aR (by have:a.2.2[i].length<=1048576:=(hr _ (List.getElem_mem hi)).1;simp;omega)];rfl
  simp only[iN hi,if_true,bm hi,aa,h1,aE (show i<9223372036854775807 by omega)]
  rw[aR (by simp;omega)]
  simp only[aa]
  rw[List.take_succ_eq_append_getElem hi]) (by
  unfold fH
  simp only[gO,Bool.false_eq_true,if_false]) (ld _ (by omega))
 have e:aF (fH a) a8 (0,a.1,a.2.1,[])=_:=this
 rw[e]
 simp only[aU,List.take_length]
theorem F6 (a:AutT) (ha:Data.sm a):bX a=some a:=by
 obtain ⟨-,⟨hb,-⟩,hn,hr⟩:=ha
 unfold bX
 rw[aR (by simp;omega)];simp only[aa,List.nil_append]
 have:=ba (f:=cw a) (fun i=>((i:Int),a.1,a.2.1,a.2.2.take i)) a.2.2.length (fun i hi=>by
  unfold cw cg
  have h1:cE 8 ([] :List Int) a.2.2[i] =some a.2.2[i]:=by rw[aR (by have:a.2.2[i].length<=1048576:=(hr _ (List.getElem_mem hi)).1;simp;omega)];rfl
  simp only[iN hi,if_true,bm hi,aa,h1,aE (show i<9223372036854775807 by omega)]
  rw[aR (by simp;omega)]
  simp only[aa]
  rw[List.take_succ_eq_append_getElem hi]) (by
  unfold cw
  simp only[gO,Bool.false_eq_true,if_false]) (ld _ (by omega))
 have e:aF (cw a) a8 (0,a.1,a.2.1,[])=_:=this
 rw[e]
 simp only[aU,List.take_length]
end D
namespace D
open Go.RowKit
abbrev ViT:=Yq2×Int×(List Int)×(List Int)
def IQ (R:List Int) (i:Int) (S:List Int) (k:Int):List Int:=if 0<=nth R i/\nth R i=nth R k - 1 then S.set k.toNat (nth S k+1) else S
def BV (R:List Int) (i:Int) (S:List Int) (l:List Int):List Int:=l.foldl (IQ R i) S
theorem yW (R:List Int) (i:Int) (S:List Int) (l:List Int) (k:Int):BV R i S (l++ [k])=IQ R i (BV R i S l) k:=by simp[BV]
def uk (nx:Int->List Int) (N:Nat) (R:List Int):Nat->List Int
 | 0=>List.replicate N 0
 | i+1=>BV R (i:Int) (uk nx N R i) (nx (i:Int))
structure SB (N:Nat) (c:Int) (S:List Int):Prop where
 len:S.length=N
 rng: ∀k:Int,0<=k->k<N->0<=nth S k/\nth S k<=c
theorem SB.one {N:Nat} {c:Int} {S:List Int} (h:SB N c S) {R:List Int} {i k:Int} (hk:0<=k/\k<N):SB N (c+1) (IQ R i S k):=by
 unfold IQ
 have hl:=h.len
 split
 ·refine ⟨by simp[h.len],fun q h0 h1=>?_⟩
  by_cases e:k=q
  ·subst e
   rw[iC hk.1 (by omega)]
   have:=h.rng k h0 h1
   omega
  ·rw[jf hk.1 h0 e]
   have:=h.rng q h0 h1
   omega
 ·exact ⟨hl,fun q h0 h1=>by have:=h.rng q h0 h1;omega⟩
theorem SB.all {N:Nat} {R:List Int} {i:Int} : ∀ {l:List Int} {c:Int} {S:List Int},SB N c S->(∀k∈l,0<=k/\k<N)->SB N (c+l.length) (BV R i S l)
 | [],c,S,h,_=>by simpa [BV] using h
 | k::l,c,S,h,hk=>by
  have h1:=h.one (R:=R) (i:=i) (hk k (by simp))
  have h2:=SB.all (R:=R) (i:=i) (l:=l) h1 (fun q hq=>hk q (by simp[hq]))
  rw[au,show c+((l.length+1:Nat):Int)=c+1+l.length from by omega]
  exact h2
theorem BW {R:List Int} {i:Int} (h:nth R i<0): ∀(l:List Int) (S:List Int),BV R i S l=S
 | [],_=>rfl
 | k::l,S=>by
  have:IQ R i S k=S:=by unfold IQ;rw[if_neg (by omega)]
  show BV R i (IQ R i S k) l=S
  rw[this];exact BW h l S
section
variable {g:GrT} {a:AutT} (H:GOOD g a) {R:List Int} (hR:R.length=a.2.1.length*g.1.length) (hr: ∀i:Int,0<=i->i<(a.2.1.length*g.1.length:Nat)-> -1<=nth R i/\nth R i<60)
include H
theorem AF: ∀i:Nat,i<=a.2.1.length*g.1.length->SB (a.2.1.length*g.1.length) (720*(i:Int)) (uk (nxN g a) (a.2.1.length*g.1.length) R i)
 | 0,_=>⟨by simp[uk],fun k h0 h1=>by
   have:k.toNat<a.2.1.length*g.1.length:=by omega
   simp[uk,nth,List.getD_eq_getElem?_getD,List.getElem?_replicate,this]⟩
 | i+1,hi=>by
  have h:=(AF i (by omega)).all (R:=R) (i:=(i:Int)) (l:=nxN g a (i:Int)) (ln H _ (by omega) (by omega))
  have hl:=oK H (i:Int)
  exact ⟨h.len,fun k h0 h1=>by have:=h.rng k h0 h1;unfold uk;omega⟩
include hR hr
theorem JV {i:Nat} (hi:i<a.2.1.length*g.1.length) (j:Nat):SB (a.2.1.length*g.1.length) (43200+720) (BV R (i:Int) (uk (nxN g a) (a.2.1.length*g.1.length) R i) ((nxN g a (i:Int)).take j)):=by
 have h:=(AF H (R:=R) i (by omega)).all (R:=R) (i:=(i:Int)) (l:=(nxN g a (i:Int)).take j) (fun k hk=>ln H _ (by omega) (by omega) k (List.mem_of_mem_take hk))
 have hl:=oK H (i:Int)
 have hl2:((nxN g a (i:Int)).take j).length<=(nxN g a (i:Int)).length:=by rw[aA];omega
 have hN:=nN H.1 H.2.2 H.2.1
 exact ⟨h.len,fun k h0 h1=>by have:=h.rng k h0 h1;omega⟩
theorem PG {i:Nat} (hi:i<a.2.1.length*g.1.length) {o:List Int} :aF (dU R ((i:Int),o) (nxN g a (i:Int))) a8 (0,uk (nxN g a) (a.2.1.length*g.1.length) R i)=some (.brk (((nxN g a (i:Int)).length:Int),uk (nxN g a) (a.2.1.length*g.1.length) R (i+1))):=by
 have hN:=nN H.1 H.2.2 H.2.1
 have hlen:=oK H (i:Int)
 have:=ba (f:=dU R ((i:Int),o) (nxN g a (i:Int))) (fun j=>((j:Int),BV R (i:Int) (uk (nxN g a) (a.2.1.length*g.1.length) R i) ((nxN g a (i:Int)).take j))) (nxN g a (i:Int)).length (fun j hj=>by
  have hb:=JV H hR hr hi j
  have hk:=ln H (i:Int) (by omega) (by omega) _ (bP (xs:=nxN g a (i:Int)) (i:=(j:Int)) (by omega) (by omega))
  unfold dU
  simp only
  rw[mW hj,yW]
  rw[if_pos (by simp;omega),aH (xs:=nxN g a (i:Int)) (by omega) (by omega)];simp only[aa]
  generalize BV R (i:Int) (uk (nxN g a) (a.2.1.length*g.1.length) R i) ((nxN g a (i:Int)).take j)=S at hb
  have hsl:=hb.len
  generalize nth (nxN g a (i:Int)) (j:Int)=k at hk⊢
  have hs:=hb.rng k hk.1 hk.2
  have r1:=hr (i:Int) (by omega) (by omega)
  have r2:=hr k hk.1 hk.2
  rw[aH (xs:=R) (i:=(i:Int)) (by omega) (by omega),aH (xs:=R) hk.1 (by omega),aH (xs:=S) hk.1 (by omega),aE (by omega)];simp only[aa]
  rw[br (n:=nth R k - 1) (by omega) (by omega),br (n:=nth S k+1) (by omega) (by omega)]
  unfold IQ
  by_cases c:0<=nth R (i:Int)
  ·rw[if_pos (by simpa using c)]
   by_cases d:nth R (i:Int)=nth R k - 1
   ·rw[if_pos (by simpa using d),if_pos ⟨c,d⟩];rfl
   ·rw[if_neg (by simpa using d),if_neg (fun h=>d h.2)];rfl
  ·rw[if_neg (by simpa using c),if_neg (fun h=>c h.1)];rfl) (by unfold dU;simp) (lX (by omega))
 rw[List.take_length] at this
 exact this
theorem PH {x:Int} {i:Nat} (hi:i<a.2.1.length*g.1.length) {o:List Int} {l:List JP} (hl:l.map (fun p=>p.2.1*(a.2.1.length:Int)+p.2.2)=nxN g a (i:Int)) (hp: ∀p∈l,(0<=p.2.1/\p.2.1<60)/\0<=p.2.2/\p.2.2<60) :
  ∃j:Int,aF (cK a ((i:Int),a.1,a.2.1,a.2.2,x,R,o) l) a8 (0,a.1,a.2.1,a.2.2,x,R,uk (nxN g a) (a.2.1.length*g.1.length) R i)=some (.brk (j,a.1,a.2.1,a.2.2,x,R,uk (nxN g a) (a.2.1.length*g.1.length) R (i+1))):=by
 have hN:=nN H.1 H.2.2 H.2.1
 have hnn:=H.2.1
 have hlen:l.length<=720:=by have:=oK H (i:Int);rw[<-hl,List.length_map] at this;exact this
 have r1:=hr (i:Int) (by omega) (by omega)
 have eR:=aH (xs:=R) (i:=(i:Int)) (by omega) (by omega)
 by_cases c:0<=nth R (i:Int)
 ·have:=ba (f:=cK a ((i:Int),a.1,a.2.1,a.2.2,x,R,o) l) (fun j=>((j:Int),a.1,a.2.1,a.2.2,x,R,BV R (i:Int) (uk (nxN g a) (a.2.1.length*g.1.length) R i) ((nxN g a (i:Int)).take j))) l.length (fun j hj=>by
   have hb:=JV H hR hr hi j
   have hjn:j<(nxN g a (i:Int)).length:=by rw[<-hl,List.length_map];exact hj
   have hk:=ln H (i:Int) (by omega) (by omega) _ (bP (xs:=nxN g a (i:Int)) (i:=(j:Int)) (by omega) (by omega))
   have hq:=hp _ (bP (xs:=l) (i:=(j:Int)) (by omega) (by omega))
   have hyl:nth (nxN g a (i:Int)) (j:Int)=(nth l (j:Int)).2.1*(a.2.1.length:Int)+(nth l (j:Int)).2.2:=by rw[<-hl,Fv (by omega) (by omega)]
   unfold cK
   simp only
   rw[mW hjn,yW]
   rw[if_pos (by simp;omega),eR];simp only[aa]
   rw[if_pos (by simpa using c),aH (xs:=l) (by omega) (by omega)];simp only[aa]
   rw[br (n:=(nth l (j:Int)).2.1*(a.2.1.length:Int)) (by omega) (by omega),<-hyl,br (n:=nth (nxN g a (i:Int)) (j:Int)) (by omega) (by omega)]
   generalize BV R (i:Int) (uk (nxN g a) (a.2.1.length*g.1.length) R i) ((nxN g a (i:Int)).take j)=S at hb
   have hsl:=hb.len
   generalize nth (nxN g a (i:Int)) (j:Int)=k at hk⊢
   have hs:=hb.rng k hk.1 hk.2
   have r2:=hr k hk.1 hk.2
   rw[aH (xs:=R) hk.1 (by omega),aH (xs:=S) hk.1 (by omega),aE (by omega)];simp only[aa]
   rw[br (n:=nth R (i:Int)+1) (by omega) (by omega),br (n:=nth S k+1) (by omega) (by omega)]
   unfold IQ
   by_cases d:nth R (i:Int)=nth R k - 1
   ·rw[if_pos (by simp;omega),if_pos ⟨c,d⟩];rfl
   ·rw[if_neg (by simp;omega),if_neg (fun h=>d h.2)];rfl) (by unfold cK;simp) (lX (by omega))
  have et:(nxN g a (i:Int)).take l.length=nxN g a (i:Int):=by
   have:l.length=(nxN g a (i:Int)).length:=by rw[<-hl,List.length_map]
   rw[this,List.take_length]
  rw[et] at this
  exact ⟨_,this⟩
 ·have e:uk (nxN g a) (a.2.1.length*g.1.length) R (i+1)=uk (nxN g a) (a.2.1.length*g.1.length) R i:=by
   show BV R (i:Int) _ _=_
   exact BW (by omega) _ _
  rw[e]
  refine ⟨0,?_⟩
  have:=ba (f:=cK a ((i:Int),a.1,a.2.1,a.2.2,x,R,o) l) (fun _=>((0:Int),a.1,a.2.1,a.2.2,x,R,uk (nxN g a) (a.2.1.length*g.1.length) R i)) 0 (fun j hj=>absurd hj (Nat.not_lt_zero _)) (by
   unfold cK
   simp only
   split
   ·rw[eR];simp only[aa]
    rw[if_neg (by simpa using c)]
   ·rfl) (by unfold a8;omega)
  exact this
end
def viewOf (g:GrT) (a:AutT) (x:Int):ViT:=((a.1,a.2.1,a.2.2),x,RKs g a (x*(a.2.1.length:Int)+a.1),uk (nxN g a) (a.2.1.length*g.1.length) (RKs g a (x*(a.2.1.length:Int)+a.1)) (a.2.1.length*g.1.length))
section
variable {g:GrT} {a:AutT} (H:GOOD g a) {x:Int} (hx:0<=x/\x<g.1.length) (ha:Data.sm a)
include H hx ha
theorem F7:bS g a x=some (viewOf g a x):=by
 have hN:=nN H.1 H.2.2 H.2.1
 have hp:=H.2.2.pos
 unfold bS
 have e1:fV (a.1,a.2.1,a.2.2)=_:=F5 a ha
 have e2:fb (g.1,g.2) (a.1,a.2.1,a.2.2) x=_:=FZ H hx
 rw[e1,e2];simp only[aa]
 have hR:=vp H hx
 have hr:=fun i h0 h1=>JT H hx (i:=i) h0 h1
 unfold viewOf
 generalize RKs g a (x*(a.2.1.length:Int)+a.1)=R at hR hr
 rw[hR,Ft (by omega)];simp only[aa]
 have:=ba (f:=fc g a) (fun i=>((i:Int),a.1,a.2.1,a.2.2,x,R,uk (nxN g a) (a.2.1.length*g.1.length) R i)) (a.2.1.length*g.1.length) (fun i hi=>by
  obtain ⟨l,es,hl,hpp⟩:=BU H (x:=(i:Int)) (by omega) (by omega)
  have es:dE (g.1,g.2) (a.1,a.2.1,a.2.2) (w7 (i:Int) (a.2.1.length:Int)) (Int.tmod (i:Int) (a.2.1.length:Int))=_:=es
  unfold fc
  simp only
  rw[if_pos (by simp only[decide_eq_true_eq];omega),fB (by omega)];simp only[aa]
  rw[es];simp only[aa]
  obtain ⟨j,e⟩:=PH H hR hr (x:=x) hi (o:=uk (nxN g a) (a.2.1.length*g.1.length) R i) hl hpp
  rw[aG e,aE (by omega)]) (by unfold fc;simp only;rw[if_neg (by simp;omega)]) (lX (by omega))
 have this:aF (fc g a) a8 (0,a.1,a.2.1,a.2.2,x,R,List.replicate (a.2.1.length*g.1.length) 0)=_:=this
 rw[aG this]
theorem wT (e:cH g a [x] =some true):a6 g a x=some (viewOf g a x,true):=by
 have hN:=nN H.1 H.2.2 H.2.1
 have hp:=H.2.2.pos
 have h1:=H.1.n1
 have hpp:0<a.2.1.length*g.1.length:=Nat.mul_pos hp (by omega)
 unfold a6
 have e1:bX (a.1,a.2.1,a.2.2)=_:=F6 a ha
 have e2:bK (g.1,g.2) (a.1,a.2.1,a.2.2) x=_:=JU H hx e
 have e3:bT (g.1,g.2) (a.1,a.2.1,a.2.2)=_:=FY H
 rw[e1,e2,e3];simp only[aa]
 have hR:=vp H hx
 have hr:=fun i h0 h1=>JT H hx (i:=i) h0 h1
 unfold viewOf
 generalize RKs g a (x*(a.2.1.length:Int)+a.1)=R at hR hr
 rw[hR,Ft (by omega),if_neg (by simp only[decide_eq_true_eq];omega),fB (by omega)];simp only[aa]
 have:=ba (f:=dV R (rm (a.2.1.length*g.1.length) fun z=>nxN g a (z:Int))) (fun i=>((i:Int),uk (nxN g a) (a.2.1.length*g.1.length) R i)) (a.2.1.length*g.1.length) (fun i hi=>by
  unfold dV
  simp only
  rw[if_pos (by rw[pT];simp only[decide_eq_true_eq];omega),qG hi];simp only[aa]
  rw[aG (PG H hR hr hi),aE (by omega)]) (by unfold dV;rw[pT];simp) (lX (by omega))
 have this:aF (dV R (rm (a.2.1.length*g.1.length) fun z=>nxN g a (z:Int))) a8 (0,List.replicate (a.2.1.length*g.1.length) 0)=_:=this
 rw[aG this]
end
theorem PI (g:GrT) (a:AutT) (x:Int) (e:cH g a [x] =some false):a6 g a x=some (((0,[],[]),0,[],[]),false):=by
 unfold a6 bK
 have e:cH (g.1,g.2) (a.1,a.2.1,a.2.2) [x] =_:=e
 rw[e];rfl
theorem yX (g:GrT) (a:AutT) (hg:Data.sm g) (ha:Data.sm a) (x:Int):(bZ g a x=some (((0,[],[]),0,[],[]),false)/\a6 g a x=some (((0,[],[]),0,[],[]),false))\/(GOOD g a/\(0<=x/\x<g.1.length)/\bZ g a x=some (viewOf g a x,true)/\a6 g a x=some (viewOf g a x,true)):=by
 obtain ⟨b,es,ei,hb⟩:=FX g a hg ha x
 have es':fe (g.1,g.2) (a.1,a.2.1,a.2.2) x 0=_:=es
 cases b with
 | false=>exact .inl ⟨by unfold bZ;rw[es'];rfl,PI g a x ei⟩
 | true =>
  obtain ⟨H,hx⟩:=hb rfl
  refine .inr ⟨H,hx,?_,wT H hx ha ei⟩
  unfold bZ
  rw[es'];simp only[aa,if_true]
  have e:bS (g.1,g.2) (a.1,a.2.1,a.2.2) x=_:=F7 H hx ha
  rw[e];rfl
theorem BX {g:GrT} {a:AutT} (H:GOOD g a) {x:Int} (hx:0<=x/\x<g.1.length):(viewOf g a x).2.2.1.length=a.2.1.length*g.1.length/\(viewOf g a x).2.2.2.length=a.2.1.length*g.1.length/\a.2.1.length*g.1.length<=60:=
 ⟨vp H hx,(AF H _ (aB _)).len,nN H.1 H.2.2 H.2.1⟩
end D
set_option synthInstance.maxSize 20000
set_option synthInstance.maxHeartbeats 2000000
namespace D
open Go.RowKit
end D
set_option synthInstance.maxSize 20000
set_option synthInstance.maxHeartbeats 2000000
namespace D
open Go.RowKit
theorem IR (g:GrT) (id:Int) (hl:g.2.length<=1048576): ∃k:Int,bs g id=some k/\dJ g id=some k/\(k= -1\/ ∃(i:Nat) (hi:i<g.2.length),k=(i:Int)):=by
 have hs:=AE (f:=bj g id) g.2 (fun u=>u.1==id) (fun i=>(i:Int)) (by omega) (fun i hi=>by
  unfold bj
  rw[iN hi,if_pos rfl,bm hi]
  simp only[aa,aE (show i<9223372036854775807 by omega)]
  split <;> rfl) (by
  unfold bj
  rw[gO];rfl)
 have e2:bI g.2 (fun a0=>gB a0 id)=bj g id:=by
  funext s;rfl
 unfold bs dJ bq
 rw[e2]
 rcases hs with ⟨i,hi1,h1,h2,e1⟩ | ⟨h1,e1⟩
 ·rw[cm e1]
  exact ⟨_,rfl,rfl,.inr ⟨i,hi1,rfl⟩⟩
 ·rw[aG e1]
  exact ⟨_,rfl,rfl,.inl rfl⟩
theorem Om {α:Type} [Data α] {xs:List α} (h:Data.sm xs) (i:Nat):Data.sm (xs.take i++xs.drop (i+1)):=by
 obtain ⟨h1,h2⟩:=dg h
 refine ⟨by rw[al,aA,aQ];omega,fun x hx=>?_⟩
 rcases aD hx with hx | hx
 ·exact h2 x (List.mem_of_mem_take hx)
 ·exact h2 x (List.mem_of_mem_drop hx)
theorem cut_ok {g:GrT} (G:GOkF g) (i:Nat):GOkF (g.1,g.2.take i++g.2.drop (i+1)):=by
 have hsub:(g.2.take i++g.2.drop (i+1)).Sublist g.2:=by
  rw[<-List.eraseIdx_eq_take_drop_succ]
  exact List.eraseIdx_sublist g.2 i
 have hp:g.2.Pairwise (fun a b=>a.1<b.1):=by
  rw[List.pairwise_iff_getElem]
  intro p q hp hq hpq
  have:=G.1.lt hpq hq
  rwa [cT hp,cT hq] at this
 have hp2:=hp.sublist hsub
 refine ⟨⟨G.1.n1,G.1.n5,?_,G.1.val,fun e he=>G.1.edge e (hsub.subset he),fun j hj=>?_⟩,fun e he=>G.2 e (hsub.subset he)⟩
 ·have:=hsub.length_le
  have:=G.1.m
  show (g.2.take i++g.2.drop (i+1)).length<=12
  omega
 ·have hj:j+1<(g.2.take i++g.2.drop (i+1)).length:=hj
  have:=List.pairwise_iff_getElem.1 hp2 j (j+1) (by omega) hj (by omega)
  show (nth (g.2.take i++g.2.drop (i+1)) (j:Int)).1<(nth (g.2.take i++g.2.drop (i+1)) ((j+1:Nat):Int)).1
  rw[cT (by omega),cT hj];exact this
def Qu (h g:GrT):Prop:=h.1=g.1/\ ∀e∈h.2,e∈g.2
theorem wU (x:GrT) (hx:Data.sm x) (id:Int): ∃r:GrT×Bool,er x id=some r/\fJ x id=some r/\Data.sm r.1/\(r.2=true->GOkF r.1/\Qu r.1 x):=by
 obtain ⟨h1,h1'⟩:=dg hx.1
 obtain ⟨h2,h2'⟩:=dg hx.2
 obtain ⟨b,ev,kv⟩:=rK x h1 h2
 obtain ⟨k,k1,k2,hk⟩:=IR x id h2
 unfold er fJ
 simp only[lr,pV,ev,oL x hx,wS x hx,k1,k2,aa]
 by_cases c:decide (k<0)=true
 ·simp only[if_pos c]
  cases b with
  | false=>exact ⟨(x,false),rfl,rfl,hx,fun h=>by cases h⟩
  | true=>exact ⟨(x,false),rfl,rfl,hx,fun h=>by cases h⟩
 ·simp only[if_neg c]
  cases b with
  | false=>exact ⟨(x,false),rfl,rfl,hx,fun h=>by cases h⟩
  | true =>
   rcases hk with rfl | ⟨i,hi,rfl⟩
   ·exact absurd rfl c
   ·have hw:IntKind.i64.wrap ((i:Int)+1)=((i+1:Nat):Int):=aE (by omega)
    have c1:(0:Int)<=(i:Int)/\(i:Int)<=(x.2.length:Int):=by omega
    have c2:(0:Int)<=((i+1:Nat):Int)/\((i+1:Nat):Int)<=(x.2.length:Int):=by omega
    have c3:(0:Int)<=(i:Int)/\(i:Int)<=((i+1:Nat):Int)/\((i+1:Nat):Int)<=(x.2.length:Int):=by omega
    have q1:(chk (0<=(i:Int)/\(i:Int)<=(x.2.length:Int)))=some ():=if_pos c1
    have q2:(chk (0<=((i+1:Nat):Int)/\((i+1:Nat):Int)<=(x.2.length:Int)))=some ():=if_pos c2
    have q3:(chk (0<=(i:Int)/\(i:Int)<=((i+1:Nat):Int)/\((i+1:Nat):Int)<=(x.2.length:Int)))=some ():=if_pos c3
    have a0:cE 8 ([] :List Int) x.1=some x.1:=by rw[aR (by simp only[aC];omega)];rfl
    have a1:cE 32 ([] :List Yq1) (x.2.take i)=some (x.2.take i):=by rw[aR (by simp only[aC,aA];omega)];rfl
    have a2:cE 32 (x.2.take i) (x.2.drop (i+1))=some (x.2.take i++x.2.drop (i+1)):=aR (by simp only[aA,aQ];omega)
    have a4:bG x.2 (i:Int) ((i+1:Nat):Int)=some (x.2.take i++x.2.drop (i+1)):=by
     unfold bG R.OU
     rw[q3];rfl
    simp only[if_true,hw,q1,q2,aa,Int.toNat_natCast,a0,a1,a2,a4]
    refine ⟨_,rfl,rfl,⟨hx.1,Om hx.2 i⟩,fun _=>⟨cut_ok (kv.1 rfl) i,rfl,fun e he=>?_⟩⟩
    rcases aD he with he | he
    ·exact List.mem_of_mem_take he
    ·exact List.mem_of_mem_drop he
section
variable {g:GrT} {a:AutT} (H:GOOD g a) {x:Int} (hx:0<=x/\x<g.1.length)
include H hx
end
section
variable {g:GrT} {a:AutT} (H:GOOD g a) {R:List Int}
include H
end
theorem rL (x y:ViT) (hx:Data.sm x):cF x y=some (decide (x=y)):=by
 obtain ⟨ha,-,hr,hs⟩:=hx
 unfold cF
 have e1:dB (x.1.1,x.1.2.1,x.1.2.2) (y.1.1,y.1.2.1,y.1.2.2)=_:=AC x.1 y.1 ha
 obtain ⟨r1,e2,k1⟩:=Az x.2.2.1 y.2.2.1 hr.1
 obtain ⟨r2,e3,k2⟩:=Az x.2.2.2 y.2.2.2 hs.1
 rw[e1];simp only[aa]
 by_cases c1:x.1=y.1
 ·rw[if_pos (by simpa using c1)]
  by_cases c2:x.2.1=y.2.1
  ·rw[if_pos (by simpa using c2),e2];simp only[aa]
   by_cases c3:x.2.2.1=y.2.2.1
   ·rw[if_pos (by simpa using k1.2 c3),e3];simp only[aa]
    by_cases c4:x.2.2.2=y.2.2.2
    ·have:x=y:=Prod.ext c1 (Prod.ext c2 (Prod.ext c3 c4))
     rw[decide_eq_true this,k2.2 c4];rfl
    ·rw[decide_eq_false (fun h:x=y=>c4 (by rw[h]))]
     simp only[Option.some.injEq,beq_eq_false_iff_ne,ne_eq]
     exact fun h=>c4 (k2.1 h)
   ·rw[if_neg (by simpa using fun h=>c3 (k1.1 h)),decide_eq_false (fun h:x=y=>c3 (by rw[h]))]
  ·rw[if_neg (by simpa using c2),decide_eq_false (fun h:x=y=>c2 (by rw[h]))]
 ·rw[if_neg (by simpa using c1),decide_eq_false (fun h:x=y=>c1 (by rw[h]))]
theorem wV (x y:ViT) (hx:Data.sm x):ez x y=some (decide (x=y)):=by
 obtain ⟨ha,-,hr,hs⟩:=hx
 unfold ez
 have e1:dA (x.1.1,x.1.2.1,x.1.2.2) (y.1.1,y.1.2.1,y.1.2.2)=_:=AD x.1 y.1 ha
 have l1:=hr.1
 have l2:=hs.1
 rw[e1,tH x.2.2.1 y.2.2.1 (by omega),tH x.2.2.2 y.2.2.2 (by omega)];simp only[aa]
 by_cases c1:x.1=y.1
 ·rw[if_pos (by simpa using c1)]
  by_cases c2:x.2.1=y.2.1
  ·rw[if_pos (by simpa using c2)]
   by_cases c3:x.2.2.1=y.2.2.1
   ·rw[if_pos (by simpa using c3)]
    by_cases c4:x.2.2.2=y.2.2.2
    ·have:x=y:=Prod.ext c1 (Prod.ext c2 (Prod.ext c3 c4))
     rw[decide_eq_true this,decide_eq_true c4]
    ·rw[decide_eq_false c4,decide_eq_false (fun h:x=y=>c4 (by rw[h]))]
   ·rw[if_neg (by simpa using c3),decide_eq_false (fun h:x=y=>c3 (by rw[h]))]
  ·rw[if_neg (by simpa using c2),decide_eq_false (fun h:x=y=>c2 (by rw[h]))]
 ·rw[if_neg (by simpa using c1),decide_eq_false (fun h:x=y=>c1 (by rw[h]))]
theorem pX {g:GrT} {a:AutT} (H:GOOD g a) (ha:Data.sm a) {x:Int} (hx:0<=x/\x<g.1.length):Data.sm (viewOf g a x):=by
 obtain ⟨h1,h2,h3⟩:=BX H hx
 exact ⟨ha,trivial,⟨by omega,fun _ _=>trivial⟩,by omega,fun _ _=>trivial⟩
theorem tM (g:GrT) (v:ViT) (hg:Data.sm g) (hv:Data.sm v): ∃b,cP g v=some b/\cj g v=some b/\(b=true->GOOD g v.1/\(0<=v.2.1/\v.2.1<g.1.length)/\v=viewOf g v.1 v.2.1):=by
 unfold cP cj
 rcases yX g v.1 hg hv.1 v.2.1 with ⟨es,ei⟩ | ⟨H,hx,es,ei⟩
 ·have es:bZ (g.1,g.2) (v.1.1,v.1.2.1,v.1.2.2) v.2.1=_:=es
  have ei:a6 (g.1,g.2) (v.1.1,v.1.2.1,v.1.2.2) v.2.1=_:=ei
  rw[es,ei]
  exact ⟨false,rfl,rfl,fun h=>by cases h⟩
 ·have es:bZ (g.1,g.2) (v.1.1,v.1.2.1,v.1.2.2) v.2.1=_:=es
  have ei:a6 (g.1,g.2) (v.1.1,v.1.2.1,v.1.2.2) v.2.1=_:=ei
  rw[es,ei];simp only[aa,if_true]
  have hs:=pX H hv.1 hx
  have e1:cF (((viewOf g v.1 v.2.1).1.1,(viewOf g v.1 v.2.1).1.2.1,(viewOf g v.1 v.2.1).1.2.2),(viewOf g v.1 v.2.1).2.1,(viewOf g v.1 v.2.1).2.2.1,(viewOf g v.1 v.2.1).2.2.2) ((v.1.1,v.1.2.1,v.1.2.2),v.2.1,v.2.2.1,v.2.2.2)=_:=rL (viewOf g v.1 v.2.1) v hs
  have e2:ez (((viewOf g v.1 v.2.1).1.1,(viewOf g v.1 v.2.1).1.2.1,(viewOf g v.1 v.2.1).1.2.2),(viewOf g v.1 v.2.1).2.1,(viewOf g v.1 v.2.1).2.2.1,(viewOf g v.1 v.2.1).2.2.2) ((v.1.1,v.1.2.1,v.1.2.2),v.2.1,v.2.2.1,v.2.2.2)=_:=wV (viewOf g v.1 v.2.1) v hs
  rw[e1,e2];simp only[aa]
  exact ⟨_,rfl,rfl,fun h=>⟨H,hx,(of_decide_eq_true h).symm⟩⟩
theorem yY {l:List Int} (h:l.length<=1048576):cg l=some l:=by
 unfold cg
 rw[aR (by simp only[aC];omega)];rfl
theorem Mx (v:ViT) (hv:Data.sm v):gf v=some v:=by
 obtain ⟨ha,-,hr,hs⟩:=hv
 unfold gf
 have e1:bX (v.1.1,v.1.2.1,v.1.2.2)=_:=F6 v.1 ha
 rw[e1,yY hr.1,yY hs.1];rfl
theorem IS {g h:GrT} {v:ViT} (hg:Data.sm g) (hv:Data.sm v) (hh:Data.sm h) {ok:Bool} (hok:ok=true->GOkF h/\h.1=g.1): ∃b,cj g v=some b/\eA g v h ok=some (if ok&&b then (viewOf h v.1 v.2.1,true) else (v,false))/\(ok=true->b=true->GOOD h v.1/\(0<=v.2.1/\v.2.1<h.1.length)):=by
 obtain ⟨b,e1,e2,hb⟩:=tM g v hg hv
 refine ⟨b,e2,?_,fun h1 h2=>?_⟩
 ·unfold eA
  have e2:cj (g.1,g.2) ((v.1.1,v.1.2.1,v.1.2.2),v.2.1,v.2.2.1,v.2.2.2)=_:=e2
  have ec:gf ((v.1.1,v.1.2.1,v.1.2.2),v.2.1,v.2.2.1,v.2.2.2)=_:=Mx v hv
  cases ok with
  | false =>
   rw[if_neg (by simp),ec];rfl
  | true =>
   rw[if_pos rfl,e2];simp only[aa]
   cases b with
   | false=>rw[if_neg (by simp),ec];rfl
   | true =>
    obtain ⟨H,hx,-⟩:=hb rfl
    obtain ⟨G,hn⟩:=hok rfl
    have H2:GOOD h v.1:=⟨G.1,H.2.1,H.2.2⟩
    have hx2:0<=v.2.1/\v.2.1<h.1.length:=by rw[hn];exact hx
    obtain ⟨c,g1,g2,g3⟩:=wQ h v.1 hh hv.1 v.2.1
    have hc:c=true:=g3.2 ⟨⟨G,H2⟩,hx2⟩
    subst hc
    have eb:a6 (h.1,h.2) (v.1.1,v.1.2.1,v.1.2.2) v.2.1=_:=wT H2 hx2 hv.1 g2
    rw[if_pos rfl,eb];rfl
 ·obtain ⟨H,hx,-⟩:=hb h2
  obtain ⟨G,hn⟩:=hok h1
  exact ⟨⟨G.1,H.2.1,H.2.2⟩,by rw[hn];exact hx⟩
end D
namespace D
open Go.RowKit
theorem F8 {xs:List Int} {i h:Int} (hl:xs.length<=1048576) (hc:gl xs i): ∃r:GrT×ViT×Int×Int,gW (xs,i,h)=some r/\Data.sm r.1/\Data.sm r.2.1/\gl xs r.2.2.1:=by
 unfold gW
 simp only
 obtain ⟨r0,e0,sg,sa,k0⟩:=N9 (h:=h) hl hc
 rw[e0];simp only[aa]
 obtain ⟨r3,e3,k3⟩:=Oa (h:=r0.2.2.2) hl k0 r0.1
 have e3:kP (xs,r0.2.2.1,r0.2.2.2) (r0.1.1,r0.1.2)=_:=e3
 rw[e3];simp only[aa]
 have hbv: ∃w:ViT×Bool,bZ (r0.1.1,r0.1.2) (r0.2.1.1,r0.2.1.2.1,r0.2.1.2.2) r3.1=some w/\Data.sm w.1:=by
  rcases yX r0.1 r0.2.1 sg sa r3.1 with ⟨es,-⟩ | ⟨H,hx,es,-⟩
  ·exact ⟨_,es,⟨trivial,⟨by decide,fun _ h=>by cases h⟩,by decide,fun _ h=>by cases h⟩,trivial,⟨by decide,fun _ h=>by cases h⟩,by decide,fun _ h=>by cases h⟩
  ·exact ⟨_,es,pX H sa hx⟩
 obtain ⟨w,ew,sw⟩:=hbv
 rw[ew];simp only[aa]
 obtain ⟨r5,e5,-,k5⟩:=bD (h:=r3.2.2) hl k3 (n:=16) (by omega)
 rw[e5];simp only[aa]
 obtain ⟨wa,-,wr,ws⟩:=sw
 have hset: ∀ {l:List Int} {j:Nat} {y:Int},Data.sm l->Data.sm (l.set j y):=fun {l j y} hh=>⟨by rw[List.length_set];exact hh.1,fun _ _=>trivial⟩
 by_cases c0:(r5.1==0)=true
 ·rw[if_pos c0]
  by_cases c:(w.1.2.2.1.length:Int)>0
  ·rw[if_pos (by simpa using c)]
   obtain ⟨r9,e9,h9,k9⟩:=bD (h:=r5.2.2) hl k5 (n:=(w.1.2.2.1.length:Int)) c
   rw[e9];simp only[aa]
   obtain ⟨r10,e10,-,k10⟩:=cn (h:=r9.2.2) hl k9 (l:=[(-1),0,1,3]) (by simp)
   rw[e10];simp only[aa]
   rw[aH h9.1 h9.2];simp only[aa]
   exact ⟨_,rfl,sg,⟨wa,trivial,hset wr,ws⟩,k10⟩
  ·rw[if_neg (by simpa using c)]
   exact ⟨_,rfl,sg,⟨wa,trivial,wr,ws⟩,k5⟩
 ·rw[if_neg c0]
  by_cases c1:(r5.1==1)=true
  ·rw[if_pos c1]
   by_cases c:(w.1.2.2.2.length:Int)>0
   ·rw[if_pos (by simpa using c)]
    obtain ⟨r9,e9,h9,k9⟩:=bD (h:=r5.2.2) hl k5 (n:=(w.1.2.2.2.length:Int)) c
    rw[e9];simp only[aa]
    obtain ⟨r10,e10,-,k10⟩:=cn (h:=r9.2.2) hl k9 (l:=[0,1,2]) (by simp)
    rw[e10];simp only[aa]
    rw[aH h9.1 h9.2];simp only[aa]
    exact ⟨_,rfl,sg,⟨wa,trivial,wr,hset ws⟩,k10⟩
   ·rw[if_neg (by simpa using c)]
    exact ⟨_,rfl,sg,⟨wa,trivial,wr,ws⟩,k5⟩
  ·rw[if_neg c1]
   by_cases c2:(r5.1==2)=true
   ·rw[if_pos c2]
    exact ⟨_,rfl,sg,⟨wa,trivial,wr,ws⟩,k5⟩
   ·rw[if_neg c2]
    exact ⟨_,rfl,sg,⟨wa,trivial,wr,ws⟩,k5⟩
theorem F9 {l:List Int} (h:l.length<=1000000):jZ l l=some true:=by
 have:=ba (f:=fh l l) (fun i=>(i:Int)) l.length (fun i hi=>by
  unfold fh
  rw[tC,if_pos (by simpa using hi),aH (by omega) (by omega)];simp only[aa]
  rw[if_neg (by simp),br (by omega) (by omega)];rfl) (by
  unfold fh
  rw[tC,if_neg (by simp)]) (lX (by omega))
 unfold jZ
 rw[if_neg (by simp),aG (show aF (fh l l) a8 0=_ from this)]
end D
set_option synthInstance.maxSize 20000
set_option synthInstance.maxHeartbeats 2000000
namespace D
open Go.RowKit
abbrev Gc:=Int×Int×Int×Int
abbrev C1:=Bool×Gc
theorem PJ (g:GrT) (id:Int) (hl:g.2.length<=1048576): ∃k:Int,bs g id=some k/\dJ g id=some k/\((k= -1/\ ∀e∈g.2,e.1≠id)\/ ∃(i:Nat) (hi:i<g.2.length),k=(i:Int)/\g.2[i].1=id):=by
 have hs:=AE (f:=bj g id) g.2 (fun u=>u.1==id) (fun i=>(i:Int)) (by omega) (fun i hi=>by
  unfold bj
  rw[iN hi,if_pos rfl,bm hi]
  simp only[aa,aE (show i<9223372036854775807 by omega)]
  split <;> rfl) (by
  unfold bj
  rw[gO];rfl)
 have e2:bI g.2 (fun a0=>gB a0 id)=bj g id:=by
  funext s;rfl
 unfold bs dJ bq
 rw[e2]
 rcases hs with ⟨i,hi1,h1,h2,e1⟩ | ⟨h1,e1⟩
 ·rw[cm e1]
  exact ⟨_,rfl,rfl,.inr ⟨i,hi1,rfl,by simpa using h1⟩⟩
 ·rw[aG e1]
  exact ⟨_,rfl,rfl,.inl ⟨rfl,fun e he=>by simpa using h1 e he⟩⟩
theorem PK (l:List Gc) (e:Gc) (hl:l.length<=1048576):bt l e=some (decide (e∈l)):=by
 have k: ∀x:Gc,((e.1==x.1)&&((e.2.1==x.2.1)&&((e.2.2.1==x.2.2.1)&&((e.2.2.2==x.2.2.2)&&true))))=decide (e=x):=fun x=>by
  obtain ⟨a,b,c,d⟩:=e
  obtain ⟨a',b',c',d'⟩:=x
  rw[Bool.eq_iff_iff];simp
 have hs:=AE (f:=aV l e) l (fun u=>decide (e=u)) (fun i=>(i:Int)) (by omega) (fun i hi=>by
  unfold aV
  rw[iN hi,if_pos rfl,bm hi]
  simp only[aa,k,aE (show i<9223372036854775807 by omega)]
  split <;> rfl) (by
  unfold aV
  rw[gO];rfl)
 unfold bt cx
 have el:aV l (e.1,e.2.1,e.2.2.1,e.2.2.2)=aV l e:=rfl
 rw[el]
 rcases hs with ⟨i,hi1,h1,h2,e1⟩ | ⟨h1,e1⟩
 ·rw[cm e1]
  simp only[aa]
  have:e∈l:=by
   have:=of_decide_eq_true h1
   rw[this];exact List.getElem_mem hi1
  rw[decide_eq_true this];simp
 ·rw[aG e1]
  simp only[aa]
  have: ¬e∈l:=fun h=>by simpa using h1 e h
  rw[decide_eq_false this];rfl
theorem Qv (g:GrT) (e:Gc):kO g e=gb e (g.1.length:Int):=by
 unfold kO gb
 simp only[L9,Ir,aa]
theorem On {α:Type} [Data α] {xs:List α} {y:α} (h:Data.sm xs) (hy:Data.sm y) (i:Nat) (hl:xs.length<=1048575):Data.sm (xs.take i++([y] ++xs.drop i)):=by
 obtain ⟨h1,h2⟩:=dg h
 refine ⟨by simp only[al,aA,au,aC,aQ];omega,fun x hx=>?_⟩
 rcases aD hx with hx | hx
 ·exact h2 x (List.mem_of_mem_take hx)
 ·rcases aD hx with hx | hx
  ·obtain rfl:=aw hx;exact hy
  ·exact h2 x (List.mem_of_mem_drop hx)
theorem Oo {g:GrT} (G:GOk g):g.2.Pairwise (fun a b=>a.1<b.1):=by
 rw[List.pairwise_iff_getElem]
 intro p q hp hq hpq
 have:=G.lt hpq hq
 rwa [cT hp,cT hq] at this
theorem Oq {g:GrT} (G:GOkF g) {e:Gc} (he:edgeP e (g.1.length:Int)) (hm:g.2.length<12) {i:Nat} (hi:i<=g.2.length) (h1: ∀j (hj:j<g.2.length),j<i->g.2[j].1<e.1) (h2: ∀(hj:i<g.2.length),e.1<g.2[i].1):GOkF (g.1,g.2.take i++([e] ++g.2.drop i)):=by
 have hp:=Oo G.1
 have hmem: ∀u∈g.2.take i++([e] ++g.2.drop i),u=e\/u∈g.2:=fun u hu=>by
  rcases aD hu with hu | hu
  ·exact .inr (List.mem_of_mem_take hu)
  ·rcases aD hu with hu | hu
   ·exact .inl (aw hu)
   ·exact .inr (List.mem_of_mem_drop hu)
 have ht: ∀u∈g.2.take i,u.1<e.1:=fun u hu=>by
  obtain ⟨j,hj,rfl⟩:=List.getElem_of_mem hu
  rw[aA] at hj
  rw[List.getElem_take]
  exact h1 j (by omega) (by omega)
 have hd: ∀u∈g.2.drop i,e.1<u.1:=fun u hu=>by
  obtain ⟨j,hj,rfl⟩:=List.getElem_of_mem hu
  rw[aQ] at hj
  rw[List.getElem_drop]
  rcases Nat.eq_zero_or_pos j with rfl | h0
  ·exact h2 (by omega)
  ·have a:=h2 (by omega)
   have b:=List.pairwise_iff_getElem.1 hp i (i+j) (by omega) (by omega) (by omega)
   omega
 have hp2:(g.2.take i++([e] ++g.2.drop i)).Pairwise (fun a b=>a.1<b.1):=by
  rw[List.pairwise_append]
  refine ⟨hp.sublist (List.take_sublist _ _),?_,fun a ha b hb=>?_⟩
  ·rw[List.singleton_append,List.pairwise_cons]
   exact ⟨hd,hp.sublist (List.drop_sublist _ _)⟩
  ·have:=ht a ha
   rcases aD hb with hb | hb
   ·rw[aw hb];exact this
   ·have:=hd b hb;omega
 refine ⟨⟨G.1.n1,G.1.n5,?_,G.1.val,fun u hu=>?_,fun j hj=>?_⟩,fun u hu=>?_⟩
 ·show (g.2.take i++([e] ++g.2.drop i)).length<=12
  simp only[al,aA,au,aC,aQ];omega
 ·rcases hmem u hu with rfl | hu
  ·unfold edgeP at he
   show (0<=u.2.1/\u.2.1<(g.1.length:Int))/\(0<=u.2.2.1/\u.2.2.1<(g.1.length:Int))/\0<=u.2.2.2/\u.2.2.2<=2
   omega
  ·exact G.1.edge u hu
 ·have hj:j+1<(g.2.take i++([e] ++g.2.drop i)).length:=hj
  have:=List.pairwise_iff_getElem.1 hp2 j (j+1) (by omega) hj (by omega)
  show (nth (g.2.take i++([e] ++g.2.drop i)) (j:Int)).1<(nth (g.2.take i++([e] ++g.2.drop i)) ((j+1:Nat):Int)).1
  rw[cT (by omega),cT hj];exact this
 ·rcases hmem u hu with rfl | hu
  ·exact he.1
  ·exact G.2 u hu
theorem wW (x:GrT) (hx:Data.sm x) (e:Gc): ∃r:GrT×Bool,ep x e=some r/\fI x e=some r/\Data.sm r.1/\(r.2=true->GOkF r.1/\r.1.1=x.1):=by
 obtain ⟨h1,h1'⟩:=dg hx.1
 obtain ⟨h2,h2'⟩:=dg hx.2
 obtain ⟨b,ev,kv⟩:=rK x h1 h2
 obtain ⟨k,k1,k2,hk⟩:=PJ x e.1 h2
 have eo:=JK e (n:=x.1.length) h1
 unfold ep fI
 simp only[lr,pV,ev,oL x hx,wS x hx,Qv,eo,k1,k2,aa]
 cases b with
 | false=>exact ⟨(x,false),rfl,rfl,hx,fun h=>by cases h⟩
 | true =>
  have G:=kv.1 rfl
  have g12:=G.1.m
  simp only[if_true]
  by_cases c1:decide (edgeP e (x.1.length:Int))=true
  ·by_cases c2:decide (k≥0)=true
   ·simp only[if_pos c1,if_pos c2];exact ⟨(x,false),rfl,rfl,hx,fun h=>by cases h⟩
   ·by_cases c3:((x.2.length:Int)==12)=true
    ·simp only[if_pos c1,if_neg c2,if_pos c3];exact ⟨(x,false),rfl,rfl,hx,fun h=>by cases h⟩
    ·simp only[if_pos c1,if_neg c2,if_neg c3]
     have hne: ∀u∈x.2,u.1≠e.1:=by
      rcases hk with ⟨-,h⟩ | ⟨i,hi,rfl,-⟩
      ·exact h
      ·exact absurd (decide_eq_true (by omega)) c2
     have lp: ∃i:Nat,i<=x.2.length/\(∀j (hj:j<x.2.length),j<i->x.2[j].1<e.1)/\(∀hj:i<x.2.length,¬x.2[i].1<e.1)/\aF (fx x e) a8 0=some (.brk (i:Int)):=by
      obtain ⟨o,eo,i,hi,hlt,hge,rfl⟩:=dt (f:=fx x e) (fun i s=>s=(i:Int)/\ ∀j (hj:j<x.2.length),j<i->x.2[j].1<e.1) (fun o=> ∃i:Nat,i<=x.2.length/\(∀j (hj:j<x.2.length),j<i->x.2[j].1<e.1)/\(∀hj:i<x.2.length,¬x.2[i].1<e.1)/\o= .brk (i:Int)) x.2.length (fun i s hi hI=>by
       obtain ⟨rfl,hI⟩:=hI
       unfold fx
       by_cases h1:i<x.2.length
       ·simp only[iN h1,if_true,bm h1,aa,aE (show i<9223372036854775807 by omega)]
        by_cases h2:x.2[i].1<e.1
        ·refine .inl ⟨h1,_,by simp[h2],rfl,fun j hj hji=>?_⟩
         by_cases hji':j=i
         ·subst hji';exact h2
         ·exact hI j hj (by omega)
        ·exact .inr ⟨.brk (i:Int),by simp[h2],(fun s' e=>by cases e),i,hi,hI,fun _=>h2,rfl⟩
       ·obtain rfl:i=x.2.length:=by omega
        exact .inr ⟨.brk (x.2.length:Int),by simp only[gO,Bool.false_eq_true,if_false],(fun s' e=>by cases e),_,hi,hI,fun h=>absurd h h1,rfl⟩) (s:=0) ⟨rfl,fun j hj h=>absurd h (Nat.not_lt_zero _)⟩ (ld _ (by omega))
      exact ⟨i,hi,hlt,hge,eo⟩
     obtain ⟨i,hi,hlt,hge,l1⟩:=lp
     have l2:aF (kQ e x) a8 0=some (.brk (i:Int)):=by
      rw[<-l1];congr 1
     simp only[l1,l2,aU]
     have hs:=On (y:=e) hx.2 ⟨trivial,trivial,trivial,trivial⟩ i (by omega)
     have q1:(chk (0<=(i:Int)/\(i:Int)<=(x.2.length:Int)))=some ():=if_pos (by omega)
     have a0:cE 8 ([] :List Int) x.1=some x.1:=by rw[aR (by simp only[aC];omega)];rfl
     have a1:cE 32 ([] :List Yq1) (x.2.take i)=some (x.2.take i):=by rw[aR (by simp only[aC,aA];omega)];rfl
     have a2:cE 32 (x.2.take i) [e] =some (x.2.take i++ [e]):=aR (by simp only[aA,au,aC];omega)
     have a3:cE 32 (x.2.take i++ [e]) (x.2.drop i)=some (x.2.take i++([e] ++x.2.drop i)):=by
      rw[aR (by simp only[al,aA,aQ,au,aC];omega),ah]
     have a5:bF x.2 (i:Int) [e] =some (x.2.take i++([e] ++x.2.drop i),[e]):=by
      unfold bF R.LU
      have:(chk (0<=(i:Int)/\(i:Int)<=(x.2.length:Int)/\ [e].length=1/\1<=32/\(x.2.length+1)*32<=140737488355328))=some ():=if_pos ⟨by omega,by omega,rfl,by omega,by omega⟩
      rw[this];rfl
     simp only[q1,aa,Int.toNat_natCast,a0,a1,a2,a3,a5]
     refine ⟨_,rfl,rfl,⟨hx.1,hs⟩,fun _=>⟨Oq G (of_decide_eq_true c1) ?_ hi hlt fun hj=>?_,rfl⟩⟩
     ·have: ¬(x.2.length:Int)=12:=by simpa using c3
      omega
     ·have:=hne _ (List.getElem_mem hj)
      have:=hge hj
      omega
  ·simp only[if_neg c1];exact ⟨(x,false),rfl,rfl,hx,fun h=>by cases h⟩
theorem Ot (g:GrT) (hg:Data.sm g) (b:List C1) (hb:b.length<=6) {i:Nat} (hi:i<b.length) (x:GrT) (hx:Data.sm x) (G:GOkF x) (hn:x.1=g.1):b7 g b ((i:Int),x)=bn g b ((i:Int),x)/\(bn g b ((i:Int),x)=some (.ret (g,false))\/ ∃y:GrT,Data.sm y/\(GOkF y/\y.1=g.1)/\bn g b ((i:Int),x)=some (.nxt (((i+1:Nat):Int),y))):=by
 have h2:=(dg hx.2).1
 obtain ⟨r,r1,r2,r3,r4⟩:=wW x hx b[i].2
 obtain ⟨d,d1,d2,d3,d4⟩:=wU x hx b[i].2.1
 obtain ⟨k,k1,k2,hk⟩:=PJ x b[i].2.1 h2
 have hc:=PK x.2 b[i].2 h2
 have hw:IntKind.i64.wrap ((i:Int)+1)=((i+1:Nat):Int):=aE (by omega)
 unfold b7 bn
 simp only[lr,iN hi,if_true,bm hi,aa,if_pos (decide_eq_true (show (i:Int)<=6 by omega)),r1,r2,k1,d1,d2,hc,oL g hg,wS g hg,hw]
 generalize b[i] =ch at *
 by_cases c:ch.1=true
 ·simp only[if_pos c]
  by_cases c2:r.2=true
  ·simp only[if_pos c2,aa,mc]
   exact ⟨trivial,.inr ⟨_,r3,⟨(r4 c2).1,(r4 c2).2.trans hn⟩,rfl⟩⟩
  ·simp only[if_neg c2,aa,mc]
   exact ⟨trivial,.inl trivial⟩
 ·simp only[if_neg c]
  rcases hk with ⟨rfl,hn'⟩ | ⟨j,hj,rfl,hid⟩
  ·have hnot: ¬ch.2∈x.2:=fun h=>hn' _ h rfl
   rw[if_pos (by decide),if_neg (by simpa using hnot)]
   simp only[aa,mc]
   exact ⟨rfl,.inl rfl⟩
  ·rw[if_neg (by simp),bm hj]
   simp only[aa]
   have eb:((x.2[j].1==ch.2.1)&&((x.2[j].2.1==ch.2.2.1)&&((x.2[j].2.2.1==ch.2.2.2.1)&&((x.2[j].2.2.2==ch.2.2.2.2)&&true))))=decide (x.2[j] =ch.2):=by
    generalize x.2[j] =u
    obtain ⟨a,b,c,d⟩:=u
    obtain ⟨t,a',b',c',d'⟩:=ch
    rw[Bool.eq_iff_iff];simp
   rw[eb]
   by_cases ce:x.2[j] =ch.2
   ·have hin:ch.2∈x.2:=ce ▸ List.getElem_mem hj
    rw[if_pos (decide_eq_true ce),if_pos (decide_eq_true hin)]
    by_cases c2:d.2=true
    ·simp only[if_pos c2,aa,mc]
     exact ⟨trivial,.inr ⟨_,d3,⟨(d4 c2).1,(d4 c2).2.1.trans hn⟩,rfl⟩⟩
    ·simp only[if_neg c2,aa,mc]
     exact ⟨trivial,.inl trivial⟩
   ·rw[if_neg (by simpa using ce)]
    have hin: ¬ch.2∈x.2:=fun hin=>by
     obtain ⟨m,hm,em⟩:=List.getElem_of_mem hin
     have e1:nth x.2 (m:Int)=x.2[m]:=cT hm
     have e2:nth x.2 (j:Int)=x.2[j]:=cT hj
     rcases Nat.lt_trichotomy m j with q | q | q
     ·have:=G.1.lt q hj
      rw[e1,e2,em,hid] at this;omega
     ·subst q;exact ce em
     ·have:=G.1.lt q hm
      rw[e1,e2,em,hid] at this;omega
    rw[if_neg (by simpa using hin)]
    simp only[aa,mc]
    exact ⟨rfl,.inl rfl⟩
theorem Ou (g:GrT) (hg:Data.sm g) (b:List C1): ∃r:GrT×Bool,eB g b=some r/\im g b=some r/\Data.sm r.1/\(r.2=true->GOkF r.1/\r.1.1=g.1):=by
 obtain ⟨h1,h1'⟩:=dg hg.1
 obtain ⟨v,ev,kv⟩:=rK g h1 (dg hg.2).1
 unfold eB im bU
 simp only[lr,pV,ev,oL g hg,wS g hg,aa]
 cases v with
 | false=>exact ⟨(g,false),rfl,rfl,hg,fun h=>by cases h⟩
 | true =>
  have G0:=kv.1 rfl
  simp only[if_true]
  by_cases c:decide ((b.length:Int)>6)=true
  ·simp only[if_pos c];exact ⟨(g,false),rfl,rfl,hg,fun h=>by cases h⟩
  ·simp only[if_neg c]
   have hb:b.length<=6:=by
    rw[decide_eq_true_eq] at c;omega
   have hend: ∀x:GrT,bn g b ((b.length:Int),x)=some (.brk ((b.length:Int),x)):=fun x=>by
    unfold bn
    simp only[]
    rw[gO];rfl
   have hend2: ∀x:GrT,b7 g b ((b.length:Int),x)=some (.brk ((b.length:Int),x)):=fun x=>by
    unfold b7
    simp only[]
    rw[gO];rfl
   have same:aF (b7 g b) a8 (0,g)=aF (bn g b) a8 (0,g):=by
    refine vq (f:=bn g b) (g:=b7 g b) (fun i s=> ∃x:GrT,s=((i:Int),x)/\Data.sm x/\(GOkF x/\x.1=g.1)/\i<=b.length) (fun i s hI=>?_) a8 0 (0,g) ⟨g,rfl,hg,⟨G0,rfl⟩,Nat.zero_le _⟩
    obtain ⟨x,rfl,hx,⟨Gx,hn⟩,hi⟩:=hI
    by_cases h:i<b.length
    ·obtain ⟨a1,a2⟩:=Ot g hg b hb h x hx Gx hn
     refine ⟨a1,fun s' hs'=>?_⟩
     rcases a2 with a2 | ⟨y,hy,hGy,a2⟩
     ·rw[a2] at hs';simp at hs'
     ·rw[a2] at hs'
      obtain rfl:=ae hs' |> Out.nxt.inj
      exact ⟨y,rfl,hy,hGy,h⟩
    ·obtain rfl:i=b.length:=by omega
     exact ⟨by rw[hend,hend2],fun s' hs'=>by rw[hend] at hs';simp at hs'⟩
   obtain ⟨o,e,hQ⟩:=dt (f:=bn g b) (fun i s=> ∃x:GrT,s=((i:Int),x)/\Data.sm x/\GOkF x/\x.1=g.1) (fun o=>o= .ret (g,false)\/ ∃(n:Int) (x:GrT),o= .brk (n,x)/\Data.sm x/\GOkF x/\x.1=g.1) b.length (fun i s hi hI=>by
    obtain ⟨x,rfl,hx,Gx,hn⟩:=hI
    by_cases h:i<b.length
    ·obtain ⟨-,a2⟩:=Ot g hg b hb h x hx Gx hn
     rcases a2 with a2 | ⟨y,hy,hGy,a2⟩
     ·exact .inr ⟨_,a2,fun s' h=>(by simp at h),.inl rfl⟩
     ·exact .inl ⟨h,_,a2,y,rfl,hy,hGy⟩
    ·obtain rfl:i=b.length:=by omega
     exact .inr ⟨_,hend x,fun s' h=>(by simp at h),.inr ⟨_,x,rfl,hx,Gx,hn⟩⟩) (s:=(0,g)) ⟨g,rfl,hg,G0,rfl⟩ (ld _ (by omega))
   rw[same,e]
   rcases hQ with rfl | ⟨n,x,rfl,hx,hG⟩
   ·exact ⟨_,rfl,rfl,hg,fun h=>by cases h⟩
   ·exact ⟨_,rfl,rfl,hx,fun _=>hG⟩
theorem IU (g:GrT) (hg:Data.sm g) (b:List C1): ∃r:GrT×Bool,bU g b=some r/\Data.sm r.1:=by
 unfold bU
 simp only[lr,oL g hg,aa]
 obtain ⟨o,e,hQ⟩:=dt (f:=b7 g b) (fun i s=> ∃x:GrT,s=((i:Int),x)/\Data.sm x) (fun o=>o= .ret (g,false)\/ ∃(n:Int) (x:GrT),o= .brk (n,x)/\Data.sm x) 7 (fun i s hi hI=>by
  obtain ⟨x,rfl,hx⟩:=hI
  have h2:=(dg hx.2).1
  unfold b7
  simp only[lr]
  by_cases h:i<b.length
  ·by_cases h7:i<7
   ·rw[if_pos (by simpa using h),if_pos (decide_eq_true (show (i:Int)<=6 by omega)),bm h]
    simp only[aa]
    obtain ⟨r,r1,-,r3,-⟩:=wW x hx b[i].2
    obtain ⟨d,d1,-,d3,-⟩:=wU x hx b[i].2.1
    obtain ⟨k,k1,-,hk⟩:=PJ x b[i].2.1 h2
    have hw:IntKind.i64.wrap ((i:Int)+1)=((i+1:Nat):Int):=aE (by omega)
    simp only[r1,d1,k1,oL g hg,hw,aa]
    generalize b[i] =ch at *
    by_cases c:ch.1=true
    ·simp only[if_pos c]
     by_cases c2:r.2=true
     ·simp only[if_pos c2,aa,mc]
      exact .inl ⟨h7,_,rfl,_,rfl,r3⟩
     ·simp only[if_neg c2,aa,mc]
      exact .inr ⟨_,rfl,(fun s' h=>by simp at h),.inl rfl⟩
    ·simp only[if_neg c]
     rcases hk with ⟨rfl,hn'⟩ | ⟨j,hj,rfl,hid⟩
     ·rw[if_pos (by decide)]
      simp only[aa,mc]
      exact .inr ⟨_,rfl,(fun s' h=>by simp at h),.inl rfl⟩
     ·rw[if_neg (by simp),bm hj]
      simp only[aa]
      split
      ·by_cases c2:d.2=true
       ·simp only[if_pos c2,aa,mc]
        exact .inl ⟨h7,_,rfl,_,rfl,d3⟩
       ·simp only[if_neg c2,aa,mc]
        exact .inr ⟨_,rfl,(fun s' h=>by simp at h),.inl rfl⟩
      ·simp only[aa,mc]
       exact .inr ⟨_,rfl,(fun s' h=>by simp at h),.inl rfl⟩
   ·rw[if_pos (by simpa using h),if_neg (by simp;omega)]
    exact .inr ⟨_,rfl,(fun s' h=>by simp at h),.inr ⟨_,x,rfl,hx⟩⟩
  ·rw[if_neg (by simpa using h)]
   exact .inr ⟨_,rfl,(fun s' h=>by simp at h),.inr ⟨_,x,rfl,hx⟩⟩) (s:=(0,g)) ⟨g,rfl,hg⟩ (ld _ (by omega))
 rw[e]
 rcases hQ with rfl | ⟨n,x,rfl,hx⟩
 ·exact ⟨_,rfl,hg⟩
 ·exact ⟨_,rfl,hx⟩
end D
namespace D
open Go.RowKit
section
variable {xs:List Int} {i h:Int}
theorem JW (hl:xs.length<=1048576) (hc:gl xs i) (g:GrT): ∃r:Gc×Int×Int,gX (xs,i,h) g=some r/\gl xs r.2.1:=by
 unfold gX
 simp only
 obtain ⟨r4,e4,-,k4⟩:=bD (h:=h) hl hc (n:=40) (by omega)
 rw[e4];simp only[aa]
 obtain ⟨r5,e5,-,k5⟩:=bD (h:=r4.2.2) hl k4 (n:=Max.max 1 (g.1.length:Int)) (by omega)
 rw[e5];simp only[aa]
 obtain ⟨r6,e6,-,k6⟩:=bD (h:=r5.2.2) hl k5 (n:=Max.max 1 (g.1.length:Int)) (by omega)
 rw[e6];simp only[aa]
 obtain ⟨r7,e7,-,k7⟩:=bD (h:=r6.2.2) hl k6 (n:=3) (by omega)
 rw[e7];simp only[aa]
 obtain ⟨r8,e8,-,k8⟩:=bD (h:=r7.2.2) hl k7 (n:=16) (by omega)
 rw[e8];simp only[aa]
 by_cases c0:(r8.1==0)=true
 ·rw[if_pos c0]
  obtain ⟨q,eq,-,kq⟩:=cn (h:=r8.2.2) hl k8 (l:=[0,99,100]) (by simp)
  rw[eq]
  exact ⟨_,rfl,kq⟩
 ·rw[if_neg c0]
  by_cases c1:(r8.1==1)=true
  ·rw[if_pos c1]
   obtain ⟨q,eq,-,kq⟩:=cn (h:=r8.2.2) hl k8 (l:=[(-1),5]) (by simp)
   rw[eq]
   exact ⟨_,rfl,kq⟩
  ·rw[if_neg c1]
   by_cases c2:(r8.1==2)=true
   ·rw[if_pos c2]
    obtain ⟨q,eq,-,kq⟩:=cn (h:=r8.2.2) hl k8 (l:=[(-1),3]) (by simp)
    rw[eq]
    exact ⟨_,rfl,kq⟩
   ·rw[if_neg c2]
    exact ⟨_,rfl,k8⟩
abbrev BaS:=Int×Int×List Int×List Gc×List C1
def MP (xs:List Int) (n:Nat) (s:BaS):Prop:=gl xs s.1/\Data.sm ((s.2.2.1,s.2.2.2.1):GrT)/\s.2.2.2.2.length<=n
theorem wX (hl:xs.length<=1048576) (hc:gl xs i) {x:GrT} (hx:Data.sm x) {B:List C1} (hB:B.length<=1000) (d:C1): ∃s:BaS,((bU (x.1,x.2) [(d.1,d.2.1,d.2.2.1,d.2.2.2.1,d.2.2.2.2)]).bind fun r18=>if r18.2 then ((cE 40 B [(d.1,d.2.1,d.2.2.1,d.2.2.2.1,d.2.2.2.2)]).bind fun z19=>some (i,h,r18.1.1,r18.1.2,z19)) else ((bd (xs,i,h) 12).bind fun r20=>if r20.1 then ((cE 40 B [(d.1,d.2.1,d.2.2.1,d.2.2.2.1,d.2.2.2.2)]).bind fun z21=>some (r20.2.1,r20.2.2,r18.1.1,r18.1.2,z21)) else (some (r20.2.1,r20.2.2,x.1,x.2,B))))=some s/\MP xs (B.length+1) s:=by
 obtain ⟨r,e,hr⟩:=IU x hx [(d.1,d.2.1,d.2.2.1,d.2.2.2.1,d.2.2.2.2)]
 have e:bU (x.1,x.2) [(d.1,d.2.1,d.2.2.1,d.2.2.2.1,d.2.2.2.2)] =_:=e
 have ea:cE 40 B [(d.1,d.2.1,d.2.2.1,d.2.2.2.1,d.2.2.2.2)] =some (B++ [(d.1,d.2.1,d.2.2.1,d.2.2.2.1,d.2.2.2.2)]):=aR (by simp only[au,aC];omega)
 rw[e];simp only[aa]
 rw[ea];simp only[aa]
 by_cases c:r.2=true
 ·rw[if_pos c]
  exact ⟨_,rfl,hc,hr,by simp⟩
 ·rw[if_neg c]
  obtain ⟨q,eq,kq⟩:=ma (h:=h) hl hc (n:=12) (by omega)
  rw[eq];simp only[aa]
  by_cases c2:q.1=true
  ·rw[if_pos c2]
   exact ⟨_,rfl,kq,hr,by simp⟩
  ·rw[if_neg c2]
   exact ⟨_,rfl,kq,hx,by show B.length<=_;omega⟩
theorem IV (hl:xs.length<=1048576) (hc:gl xs i) {p:List Int×Int×Int} (hp:p.1=xs) {x:GrT} (hx:Data.sm x) {B:List C1} (hB:B.length<=1000) {n:Nat} (hn:n+1<1000): ∃s:BaS,eu p (((n+1:Nat):Int),i,h,x.1,x.2,B)=some (.nxt ((n:Int),s.1,s.2.1,s.2.2.1,s.2.2.2.1,s.2.2.2.2))/\MP xs (B.length+1) s:=by
 subst hp
 unfold eu
 simp only
 rw[if_pos (decide_eq_true (show ((n+1:Nat):Int)>0 by omega)),show IntKind.i64.wrap (((n+1:Nat):Int) - 1)=(n:Int) from by rw[br (by omega) (by omega)];omega]
 obtain ⟨r5,e5,k5⟩:=JW (h:=h) hl hc x
 have e5:gX (p.1,i,h) (x.1,x.2)=_:=e5
 rw[e5];simp only[aa]
 suffices hs: ∀(o:Option BaS),(∃s,o=some s/\MP p.1 (B.length+1) s)-> ∃s:BaS,(o.bind fun s40=>some (Out.nxt ((n:Int),s40.1,s40.2.1,s40.2.2.1,s40.2.2.2.1,s40.2.2.2.2):Out ((List C1)×Int×Int) (Int×BaS)))=some (.nxt ((n:Int),s.1,s.2.1,s.2.2.1,s.2.2.2.1,s.2.2.2.2))/\MP p.1 (B.length+1) s by
  refine hs _ ?_
  have part2: ∀ {i h:Int} (_:gl p.1 i) (d:C1),∃s:BaS,(if decide ((B.length:Int)>0)=true then ((bd (p.1,i,h) 4).bind fun r12=>Option.bind ((if r12.1 then ((aW B (IntKind.i64.wrap ((B.length:Int) - 1))).bind fun x13=>some (cond.match_1 (fun (u14:Bool)=>Bool) x13.1 (fun (u15:Unit)=>false) (fun (u16:Unit)=>true),x13.2.1,x13.2.2.1,x13.2.2.2.1,x13.2.2.2.2)) else (some (d.1,d.2.1,d.2.2.1,d.2.2.2.1,d.2.2.2.2)):Option Yq6)) (fun s17=>(bU (x.1,x.2) ([(s17.1,s17.2.1,s17.2.2.1,s17.2.2.2.1,s17.2.2.2.2)])).bind fun r18=>if r18.2 then ((cE 40 B ([(s17.1,s17.2.1,s17.2.2.1,s17.2.2.2.1,s17.2.2.2.2)])).bind fun z19=>some (r12.2.1,r12.2.2,r18.1.1,r18.1.2,z19)) else ((bd (p.1,r12.2.1,r12.2.2) 12).bind fun r20=>if r20.1 then ((cE 40 B ([(s17.1,s17.2.1,s17.2.2.1,s17.2.2.2.1,s17.2.2.2.2)])).bind fun z21=>some (r20.2.1,r20.2.2,r18.1.1,r18.1.2,z21)) else (some (r20.2.1,r20.2.2,x.1,x.2,B))))) else ((bU (x.1,x.2) ([(d.1,d.2.1,d.2.2.1,d.2.2.2.1,d.2.2.2.2)])).bind fun r22=>if r22.2 then ((cE 40 B ([(d.1,d.2.1,d.2.2.1,d.2.2.2.1,d.2.2.2.2)])).bind fun z23=>some (i,h,r22.1.1,r22.1.2,z23)) else ((bd (p.1,i,h) 12).bind fun r24=>if r24.1 then ((cE 40 B ([(d.1,d.2.1,d.2.2.1,d.2.2.2.1,d.2.2.2.2)])).bind fun z25=>some (r24.2.1,r24.2.2,r22.1.1,r22.1.2,z25)) else (some (r24.2.1,r24.2.2,x.1,x.2,B)))))=some s/\MP p.1 (B.length+1) s:=by
   intro i h hc d
   by_cases cb:(B.length:Int)>0
   ·rw[if_pos (by simpa using cb)]
    obtain ⟨q,eq,kq⟩:=ma (h:=h) hl hc (n:=4) (by omega)
    rw[eq];simp only[aa]
    by_cases c2:q.1=true
    ·rw[if_pos c2,br (by omega) (by omega),aH (by omega) (by omega)];simp only[aa]
     exact wX hl kq hx hB (cond.match_1 (fun (u14:Bool)=>Bool) (nth B ((B.length:Int) - 1)).1 (fun (u15:Unit)=>false) (fun (u16:Unit)=>true),(nth B ((B.length:Int) - 1)).2)
    ·rw[if_neg c2];simp only[aa]
     exact wX hl kq hx hB d
   ·rw[if_neg (by simpa using cb)]
    exact wX hl hc hx hB d
  by_cases c1:(x.2.length:Int)>0
  ·rw[if_pos (by simpa using c1)]
   obtain ⟨q,eq,kq⟩:=ma (h:=r5.2.2) hl k5 (n:=2) (by omega)
   rw[eq];simp only[aa]
   by_cases c2:q.1=true
   ·rw[if_pos c2]
    obtain ⟨w,ew,hw,kw⟩:=bD (h:=q.2.2) hl kq (n:=(x.2.length:Int)) c1
    rw[ew];simp only[aa]
    rw[aH hw.1 hw.2];simp only[aa]
    exact part2 kw (false,nth x.2 w.1)
   ·rw[if_neg c2];simp only[aa]
    exact part2 kq (true,r5.1)
  ·rw[if_neg (by simpa using c1)]
   exact part2 k5 (true,r5.1)
 rintro o ⟨s,rfl,hs⟩
 exact ⟨s,rfl,hs⟩
theorem BY (hl:xs.length<=1048576) {p:List Int×Int×Int} (hp:p.1=xs): ∀(n:Nat) (f:Nat) {i h:Int} {x:GrT} {B:List C1},n<900->n<f->gl xs i->Data.sm x->B.length+n<=900-> ∃s:BaS,aF (eu p) f ((n:Int),i,h,x.1,x.2,B)=some (.brk (0,s))/\MP xs (B.length+n) s
 | 0,f+1,i,h,x,B,_,_,hc,hx,hb=>by
  refine ⟨(i,h,x.1,x.2,B),?_,hc,hx,aB _⟩
  have:eu p (((0:Nat):Int),i,h,x.1,x.2,B)=some (.brk (0,i,h,x.1,x.2,B)):=by
   unfold eu
   simp only
   rw[if_neg (by simp)];rfl
  rw[aF,this]
 | n+1,f+1,i,h,x,B,hn,hf,hc,hx,hb=>by
  obtain ⟨s,e,h1,h2,h3⟩:=IV (h:=h) hl hc hp hx (B:=B) (by omega) (n:=n) (by omega)
  obtain ⟨t,e2,h4,h5,h6⟩:=BY hl hp n f (h:=s.2.1) (x:=(s.2.2.1,s.2.2.2.1)) (B:=s.2.2.2.2) (by omega) (by omega) h1 h2 (by omega)
  refine ⟨t,?_,h4,h5,by omega⟩
  rw[aF,e]
  exact e2
theorem My (hl:xs.length<=1048576) (hc:gl xs i) {g:GrT} (hg:Data.sm g) {m:Nat} (hm:m<=8): ∃r:(List C1)×Int×Int,jA (xs,i,h) g (m:Int)=some r/\r.1.length<=m/\gl xs r.2.1:=by
 unfold jA
 simp only
 have ec:bC (g.1,g.2)=_:=oL g hg
 rw[ec,br (by omega) (by omega)];simp only[aa]
 obtain ⟨r,e,hr,kr⟩:=bD (h:=h) hl hc (n:=(m:Int)+1) (by omega)
 rw[e];simp only[aa]
 obtain ⟨k,hk⟩: ∃k:Nat,r.1=(k:Int):=⟨r.1.toNat,by omega⟩
 obtain ⟨s,es,h1,h2,h3⟩:=BY hl (p:=(xs,i,h)) rfl k a8 (h:=r.2.2) (x:=g) (B:=[]) (by omega) (by unfold a8;omega) kr hg (by simp only[aC];omega)
 rw[hk,aG es]
 exact ⟨_,rfl,by have:s.2.2.2.2.length<=0+k:=h3;show s.2.2.2.2.length<=m;omega,h1⟩
end
end D
namespace D
open Go.RowKit
theorem C2 {c:Prop} [Decidable c] (h:c):chk c=some ():=if_pos h
theorem C3 {α:Type} {xs:List α} {i n:Nat} {z:α} (h:i<=xs.length):(me xs i n z).take i=xs.take i:=by
 unfold me
 rw[List.take_append_of_le_length (by rw[aA];omega),List.take_take,Nat.min_self]
theorem Ge {α:Type} {xs:List α} {i:Nat} {z:α} (h:i<=xs.length):(me xs i xs.length z).length=xs.length:=mA h (aB _)
theorem IW {α:Type} {ys:List α} {i:Nat} {x:α} (h:i<ys.length):(ys.set i x).take (i+1)=ys.take i++ [x]:=by
 rw[List.take_succ_eq_append_getElem (by simpa using h)]
 simp[List.take_set_of_le]
theorem set_drop {α:Type} {ys:List α} {i j:Nat} {x:α} (h:i<j):(ys.set i x).drop j=ys.drop j:=by
 apply List.ext_getElem?
 intro q
 rw[List.getElem?_drop,List.getElem?_drop,List.getElem?_set_ne (by omega)]
theorem Gf {α:Type} {ys xs:List α} {j:Nat} (h:ys.drop j=xs.drop j):ys.drop (j+1)=xs.drop (j+1):=by
 rw[<-List.drop_drop,h,List.drop_drop]
theorem BZ {α:Type} {ys xs:List α} {j q:Nat} (h:ys.drop j=xs.drop j) (hq:j<=q) (h1:q<ys.length) (h2:q<xs.length):ys[q] =xs[q]:=by
 have e:=congrArg (fun l=>l[q - j]?) h
 simp only[List.getElem?_drop,show j+(q - j)=q from by omega] at e
 rw[List.getElem?_eq_getElem h1,List.getElem?_eq_getElem h2] at e
 exact ae e
section
variable {α:Type} [DecidableEq α]
def mi:List α->List α
 | [] =>[]
 | [a] =>[a]
 | a::b::l=>if a=b then mi (b::l) else a::mi (b::l)
theorem rM {x:α} : ∀ {l:List α},x∈mi l↔x∈l
 | [] =>Iff.rfl
 | [a] =>Iff.rfl
 | a::b::l=>by
  rw[mi]
  split
  ·rename_i e;subst e;rw[rM];simp
  ·rw[List.mem_cons,rM,List.mem_cons (l:=b::l)]
theorem yZ: ∀(l:List α) (b:α),l≠ [] ->mi (l++ [b])=if l.getLast? =some b then mi l else mi l++ [b]
 | [],b,h=>absurd rfl h
 | [a],b,_=>by
  by_cases e:a=b
  ·subst e;simp[mi]
  ·simp[mi,e]
 | a::c::l,b,_=>by
  have ih:=yZ (c::l) b (by simp)
  have hg:(a::c::l).getLast? =(c::l).getLast? :=by simp[List.getLast?_cons_cons]
  rw[hg]
  show mi (a::c::(l++ [b]))=_
  rw[mi,mi]
  rw[show c::(l++ [b])=(c::l)++ [b] from rfl,ih]
  by_cases e:a=c
  ·rw[if_pos e,if_pos e]
  ·rw[if_neg e,if_neg e]
   split <;> simp
theorem tN {xs:List α} {j:Nat} (h0:0<j) (h:j<xs.length):mi (xs.take (j+1))=if xs[j - 1] =xs[j] then mi (xs.take j) else mi (xs.take j)++ [xs[j]]:=by
 rw[List.take_succ_eq_append_getElem h,yZ _ _ (by
  intro e
  have h9:=congrArg List.length e
  rw[aA,Nat.min_eq_left (Nat.le_of_lt h),aC] at h9
  omega)]
 have hg:(xs.take j).getLast? =some xs[j - 1]:=by
  rw[List.getLast?_eq_getElem?,aA,Nat.min_eq_left (Nat.le_of_lt h),List.getElem?_take,if_pos (show j - 1<j by omega),List.getElem?_eq_getElem (show j - 1<xs.length by omega)]
 rw[hg]
 by_cases e:xs[j - 1] =xs[j]
 ·rw[if_pos (by rw[e]),if_pos e]
 ·rw[if_neg (by simpa using e),if_neg e]
theorem y6 {xs:List α} : ∀(j:Nat),j<=xs.length->(∀q (hq:q<j) (h0:0<q) (hx:j<=xs.length),xs[q - 1]'(by omega)≠xs[q]'(by omega))->mi (xs.take j)=xs.take j
 | 0,_,_=>by simp[mi]
 | 1,h,_=>by
  cases xs with
  | nil=>simp[mi]
  | cons a l=>simp[mi]
 | j+2,h,hq=>by
  rw[tN (by omega) (by omega),if_neg (hq (j+1) (by omega) (by omega) h),y6 (j+1) (by omega) (fun q h1 h2 h3=>hq q (by omega) h2 h),<-List.take_succ_eq_append_getElem]
end
theorem wY: ∀ {l:List Int},l.Pairwise (fun a b=>a<=b)->(mi l).Pairwise (fun a b=>a<b)
 | [],_=>List.Pairwise.nil
 | [a],_=>by simp[mi]
 | a::b::l,h=>by
  obtain ⟨h1,h2⟩:=List.pairwise_cons.1 h
  rw[mi]
  split
  ·exact wY h2
  ·rename_i hn
   refine List.pairwise_cons.2 ⟨fun x hx=>?_,wY h2⟩
   have hab:a<b:=by have:=h1 b (List.mem_cons_self ..);omega
   rcases ax (rM.1 hx) with rfl | hx
   ·exact hab
   ·have:=(List.pairwise_cons.1 h2).1 x hx
    omega
theorem y7: ∀ {l m:List Int},l.Pairwise (fun a b=>a<b)->m.Pairwise (fun a b=>a<b)->(∀x,x∈l↔x∈m)->l=m
 | [],[],_,_,_=>rfl
 | [],b::m,_,_,h=>absurd ((h b).2 (by simp)) (by simp)
 | a::l,[],_,_,h=>absurd ((h a).1 (by simp)) (by simp)
 | a::l,b::m,h1,h2,h=>by
  obtain ⟨k1,k2⟩:=List.pairwise_cons.1 h1
  obtain ⟨j1,j2⟩:=List.pairwise_cons.1 h2
  have hab:a=b:=by
   have ha:=(h a).1 (by simp)
   have hb:=(h b).2 (by simp)
   rcases ax ha with e | ha
   ·exact e
   ·rcases ax hb with e | hb
    ·exact e.symm
    ·have:=k1 b hb;have:=j1 a ha;omega
  subst hab
  rw[y7 k2 j2 fun x=>?_]
  have:=h x
  rw[List.mem_cons,List.mem_cons] at this
  constructor
  ·intro hx
   rcases this.1 (.inr hx) with e | e
   ·subst e;have:=k1 x hx;omega
   ·exact e
  ·intro hx
   rcases this.2 (.inr hx) with e | e
   ·subst e;have:=j1 x hx;omega
   ·exact e
end D
namespace D
open Go.RowKit
theorem Qi {a b:Int} :(a==b)=decide (a=b):=by rw[Bool.eq_iff_iff];simp
theorem AG (xs:List Int) (hl:xs.length<=1073741824):bL xs=some (mi xs):=by
 unfold bL
 by_cases h2:xs.length<2
 ·rw[if_pos (by simp;omega)]
  cases xs with
  | nil=>rfl
  | cons a l =>
   cases l with
   | nil=>rfl
   | cons b l=>simp only[au] at h2;omega
 rw[if_neg (by simp;omega)]
 have key:(aF (be xs) a8 1=some (.ret (mi xs)))\/(∃s,aF (be xs) a8 1=some (.brk s)/\mi xs=xs):=by
  obtain ⟨o,e,hQ⟩:=dt (f:=be xs) (fun t s=>s=((t+1:Nat):Int)/\mi (xs.take (t+1))=xs.take (t+1)) (fun o=>o= .ret (mi xs)\/ ∃s,o= .brk s/\mi xs=xs) (xs.length - 1) (fun t s ht hI=>by
   obtain ⟨rfl,hI⟩:=hI
   unfold be
   by_cases h1:t+1<xs.length
   ·have hp:((t+1:Nat):Int) - 1=((t:Nat):Int):=by omega
    rw[iN h1,if_pos rfl,bm h1,br (n:=((t+1:Nat):Int) - 1) (by omega) (by omega),hp,bm (show t<xs.length by omega)]
    simp only[aa,Qi]
    have hn:=tN (xs:=xs) (j:=t+1) (by omega) h1
    rw[hI] at hn
    simp only[Nat.add_sub_cancel] at hn
    by_cases he:xs[t+1] =xs[t]
    ·rw[if_pos (decide_eq_true he),C2 (by omega),aa]
     rw[if_pos he.symm] at hn
     have hlt:(xs.take (t+1)).length=t+1:=by rw[aA];omega
     obtain ⟨s,e1,ys,rfl,k1,k2,k3,k4⟩:=lf (f:=bz xs ((t+1:Nat):Int)) (fun u s=> ∃ys:List Int,s=(((mi (xs.take (t+2+u))).length:Int),((u+1:Nat):Int),ys)/\ys.length=xs.length/\ys.take (mi (xs.take (t+2+u))).length=mi (xs.take (t+2+u))/\ys.drop (t+1+u)=xs.drop (t+1+u)/\(mi (xs.take (t+2+u))).length<=t+1+u) (xs.length - (t+2)) (fun u s hu hI=>by
      obtain ⟨ys,rfl,k1,k2,k3,k4⟩:=hI
      have hj:t+2+u<xs.length:=by clear k4 k2;omega
      have hj1:t+1+u<xs.length:=by clear k4 k2;omega
      have hj2:t+2+u<ys.length:=by clear k4 k2;omega
      have hj3:t+1+u<ys.length:=by clear k4 k2;omega
      have a1:(0+((t+1:Nat):Int))+((u+1:Nat):Int)=((t+2+u:Nat):Int):=by omega
      have a2:((u+1:Nat):Int) - 1=((u:Nat):Int):=by omega
      have a3:(0+((t+1:Nat):Int))+((u:Nat):Int)=((t+1+u:Nat):Int):=by omega
      unfold bz
      dsimp only
      rw[if_pos (by simp;omega),C2 (by omega)]
      simp only[aa]
      rw[br (n:=((u+1:Nat):Int) - 1) (by omega) (by omega),a1,a2,a3,bm (xs:=ys) hj2,bm (xs:=ys) hj3,C2 (by omega),BZ k3 (by omega) hj2 hj,BZ k3 (aB _) hj3 hj1]
      simp only[aa,Qi,lr]
      have e9:t+2+u - 1=t+1+u:=by clear k4 k2;omega
      have e8:0<t+2+u:=by clear k4 k2;omega
      have hnx:=tN (xs:=xs) (j:=t+2+u) e8 hj
      simp only[e9] at hnx
      have hd:=Gf k3
      rw[show t+1+u+1=t+1+(u+1) from by omega] at hd
      rw[show t+2+(u+1)=t+2+u+1 from by omega,hnx]
      generalize mi (xs.take (t+2+u))=K at *
      by_cases hq:xs[t+2+u] =xs[t+1+u]
      ·rw[if_neg (by simpa using hq),if_pos hq.symm]
       simp only[aa]
       rw[aE (by omega)]
       exact ⟨_,rfl,ys,rfl,k1,k2,hd,by omega⟩
      ·rw[if_pos (by simpa using hq),if_neg (fun e=>hq e.symm),bm (xs:=ys) (show K.length<ys.length by omega)]
       simp only[aa]
       rw[aE (by omega),aE (by omega)]
       refine ⟨_,rfl,ys.set K.length xs[t+2+u],?_,by simpa using k1,?_,?_,?_⟩
       ·rw[al,List.length_singleton];rfl
       ·rw[al,List.length_singleton,IW (by omega),k2]
       ·rw[set_drop (by omega)];exact hd
       ·rw[al,List.length_singleton];omega) (fun s hI=>by
      obtain ⟨ys,rfl,k1,k2,k3,k4⟩:=hI
      unfold bz
      rw[if_neg (by simp;omega)]) (s:=(((t+1:Nat):Int),1,xs)) ⟨xs,by rw[Nat.add_zero,hn,hlt];rfl,rfl,by rw[Nat.add_zero,hn,hlt],rfl,by rw[Nat.add_zero,hn,hlt];omega⟩ (ld _ (by omega))
     refine .inr ⟨.ret (mi xs),?_,fun s' hh=>(by simp at hh),.inl rfl⟩
     rw[aG e1]
     have hall:xs.take (t+2+(xs.length - (t+2)))=xs:=List.take_of_length_le (by omega)
     rw[hall] at k2 k4⊢
     generalize mi xs=K at *
     have q0:K.length<=ys.length:=by omega
     have z1:((0:Int)+((K.length:Nat):Int)).toNat=K.length:=by omega
     have z2:((0:Int)+(((ys.length:Nat):Int) - 0)).toNat=ys.length:=by omega
     simp only[z1,z2]
     have zl:=Ge (z:=(0:Int)) q0
     rw[C2 (by omega),aa,C2 (by omega),aa,C2 (by rw[zl];omega),aa,C3 q0,k2,List.drop_zero]
    ·rw[if_neg (by simpa using he),aE (by omega)]
     rw[if_neg (fun e=>he e.symm),<-List.take_succ_eq_append_getElem h1] at hn
     exact .inl ⟨by omega,_,rfl,rfl,hn⟩
   ·refine .inr ⟨.brk ((t+1:Nat):Int),?_,fun s' hh=>(by simp at hh),.inr ⟨_,rfl,?_⟩⟩
    ·rw[if_neg (by simp;omega)]
    ·rw[List.take_of_length_le (by omega)] at hI;exact hI) (s:=1) ⟨rfl,y6 1 (by omega) (fun q h1 h0=>by omega)⟩ (ld _ (by omega))
  rcases hQ with rfl | ⟨s,rfl,h⟩
  ·exact .inl e
  ·exact .inr ⟨s,e,h⟩
 rcases key with e | ⟨s,e,h⟩
 ·rw[cm e]
 ·rw[aG e,h]
theorem tO (m:Nat): ∀k,(c7 m k).Pairwise (fun a b=>a<b)
 | 0=>List.Pairwise.nil
 | k+1=>by
  rw[gi]
  split
  ·refine List.pairwise_append.2 ⟨tO m k,List.pairwise_singleton _ _,fun a ha b hb=>?_⟩
   obtain ⟨i,hi,_,rfl⟩:=mU.1 ha
   obtain rfl:b=(k:Int):=by simpa using hb
   omega
  ·exact tO m k
theorem Mz {X:List Int} {m:Nat} (h: ∀x∈X,∃i:Nat,i<30/\x=(i:Int)) (hm: ∀i:Nat,i<30->(m.testBit i=true↔(i:Int)∈X)):mi (X.mergeSort fun x y=>decide (x<=y))=c7 m 30:=by
 have hp:(X.mergeSort fun x y=>decide (x<=y)).Pairwise (fun a b=>a<=b):=by
  have:=List.pairwise_mergeSort (le:=fun (x y:Int)=>decide (x<=y)) (fun a b c h1 h2=>by
   have h1:=of_decide_eq_true h1;have h2:=of_decide_eq_true h2
   exact decide_eq_true (by omega)) (fun a b=>by
   rw[Bool.or_eq_true,decide_eq_true_eq,decide_eq_true_eq];omega) X
  exact this.imp fun h=>of_decide_eq_true h
 refine y7 (wY hp) (tO m 30) fun x=>?_
 rw[rM,List.mem_mergeSort,mU]
 constructor
 ·intro hx
  obtain ⟨i,hi,rfl⟩:=h x hx
  exact ⟨i,hi,(hm i hi).2 hx,rfl⟩
 ·rintro ⟨i,hi,hb,rfl⟩
  exact (hm i hi).1 hb
end D
namespace D
open Go.RowKit
theorem JX {p:Prop} [Decidable p] (h:p):chk p=some ():=by unfold chk;rw[if_pos h]
theorem PL {m:Nat} (hm:m<2 ^ 30):px (m:Int)=some (c7 m 30):=by
 have hm':m<2 ^ 62:=az hm (Nat.pow_le_pow_right (by decide) (by decide))
 unfold px
 have:=ba (f:=iz (m:Int)) (fun i=>(c7 m i,(i:Int))) 30 (fun i hi=>by
  have hl:=iE m i
  unfold iz
  simp only
  rw[if_pos (by simp;omega),JX (by omega),tJ hm' (by omega),aE (by omega),gi];simp only[aa]
  by_cases b:m.testBit i=true
  ·rw[if_pos b,if_pos b,aR (by simp;omega)];rfl
  ·rw[if_neg b,if_neg b];rfl) (by unfold iz;simp) (by unfold a8;omega)
 have this:aF (iz (m:Int)) a8 (([] :List Int),0)=_:=this
 rw[aG this]
theorem AH (xs:List Int) (h:xs.length<=1000000):gF xs=some (mi (xs.mergeSort fun x y=>decide (x<=y))):=by
 unfold gF cg df R.Il
 rw[aR (by simp;omega)];simp only[aa,List.nil_append]
 rw[JX (by omega)];simp only[aa]
 rw[AG _ (by rw[List.length_mergeSort];omega)];rfl
end D
namespace D
open Go.RowKit
def Da (a:AutT) (s v:Int):Bool:=decide (∃q∈c7 (cS a s v) 30,nth a.2.1 q=true)
section
variable {a:AutT} {n:Nat} (V:VA a n) (hn:n<=12)
include V hn
theorem AI {s v:Int} (hs:0<=s/\s<n) (hv:0<=v/\v<=2):gE a (rk 1 s) v=some (Da a s v):=by
 obtain ⟨t,rfl⟩: ∃t:Nat,s=(t:Int):=⟨s.toNat,by omega⟩
 obtain ⟨e1,h1⟩:=lj V hn hs hv
 have hC:cS a (t:Int) v<2 ^ 30:=az h1 (Nat.pow_le_pow_right (by decide) (by omega))
 unfold gE
 rw[qF (by omega),mV (Nat.pow_lt_pow_right (by decide) (by omega)),yR (by omega)];simp only[aa]
 have hlen:=iE (cS a (t:Int) v) 30
 have h0:cV a v [(t:Int)] 0=some (if Da a (t:Int) v=true then .ret true else .nxt 1):=by
  unfold cV
  rw[if_pos (by simp),show aW [(t:Int)] 0=some (t:Int) from rfl];simp only[aa]
  have e1:de (a.1,a.2.1,a.2.2) (t:Int) v=_:=e1
  rw[e1];simp only[aa]
  rw[mV hC];simp only[aa]
  rcases scan (f:=fP a (c7 (cS a (t:Int) v) 30)) (c7 (cS a (t:Int) v) 30) (fun q=> ¬nth a.2.1 q=true) true (by omega) (fun i hi=>by
   have hq:=pS V hn h1 _ (bP (xs:=c7 (cS a (t:Int) v) 30) (i:=(i:Int)) (by omega) (by omega))
   unfold fP
   rw[if_pos (by simp;omega),aH (by omega) (by omega)];simp only[aa]
   rw[V.acc hq.1 hq.2,aE (by omega)];simp only[aa]
   cases nth a.2.1 (nth (c7 (cS a (t:Int) v) 30) (i:Int)) <;> rfl) (by unfold fP;simp) with ⟨e,h⟩ | ⟨e,h⟩
  ·rw[aG e,if_neg (by unfold Da;rw[decide_eq_true_eq];rintro ⟨q,hq,hqa⟩;exact h q hq hqa)];rfl
  ·rw[cm e,if_pos (by
    unfold Da;rw[decide_eq_true_eq]
    by_cases c: ∃q∈c7 (cS a (t:Int) v) 30,nth a.2.1 q=true
    ·exact c
    ·exact absurd (fun q hq hqa=>c ⟨q,hq,hqa⟩) h)]
 have h1':cV a v [(t:Int)] 1=some (.brk 1):=by
  unfold cV;rw[if_neg (by simp)]
 rcases FN (f:=cV a v [(t:Int)]) 1 (fun _=> ¬Da a (t:Int) v=true) true (by decide) (fun i hi=>by
  obtain rfl:i=0:=by omega
  rw[show ((0:Nat):Int)=0 from rfl,h0]
  cases Da a (t:Int) v <;> rfl) h1' with ⟨e,h⟩ | ⟨e,h⟩
 ·rw[aG e]
  have:=h 0 (by decide)
  rw[Bool.not_eq_true] at this
  rw[this]
 ·rw[cm e]
  have:Da a (t:Int) v=true:=by
   cases hb:Da a (t:Int) v with
   | true=>rfl
   | false=>exact absurd (fun _ _=>by rw[hb];decide) h
  rw[this]
theorem y8 {C:Nat} (hC:C<2 ^ n):aU (aF (dC a (C:Int)) a8 0) (fun r=>some r) (fun _=>some false)=some (decide (∃q∈c7 C 30,nth a.2.1 q=true)):=by
 have hC':C<2 ^ 62:=az hC (p62 (by omega))
 rcases FN (f:=dC a (C:Int)) n (fun i=> ¬(C.testBit i=true/\nth a.2.1 (i:Int)=true)) true (by omega) (fun i hi=>by
  unfold dC
  rw[V.len,if_pos (by simp;omega),fB (by omega),tJ hC' (by omega),V.acc (by omega) (by omega),aE (by omega)];simp only[aa]
  cases C.testBit i <;> cases nth a.2.1 (i:Int) <;> rfl) (by unfold dC;rw[V.len];simp) with ⟨e,h⟩ | ⟨e,h⟩
 ·rw[aG e,decide_eq_false]
  rintro ⟨q,hq,hqa⟩
  have hr:=pS V hn hC q hq
  obtain ⟨i,hi,hb,rfl⟩:=mU.1 hq
  exact h i (by omega) ⟨hb,hqa⟩
 ·rw[cm e,decide_eq_true]
  by_cases c: ∃q∈c7 C 30,nth a.2.1 q=true
  ·exact c
  ·exact absurd (fun (i:Nat) (hi:i<n) (hh:C.testBit i=true/\nth a.2.1 (i:Int)=true)=>c ⟨(i:Int),mU.2 ⟨i,by omega,hh.1,rfl⟩,hh.2⟩) h
end
section
variable {g:GrT} {a:AutT} (H:GOOD g a)
include H
theorem Gg {x s:Nat} (hx:x<g.1.length) (hs:s<a.2.1.length):fK g a (x:Int) (s:Int)=some (Da a (s:Int) (nth g.1 (x:Int))):=by
 have hv:=H.1.val _ (bP (xs:=g.1) (i:=(x:Int)) (by omega) (by omega))
 have ec:=yU H.2.2 H.2.1 (s:=(s:Int)) ⟨by omega,by omega⟩ hv
 have hC:=(lj H.2.2 H.2.1 (s:=(s:Int)) ⟨by omega,by omega⟩ hv).2
 unfold fK
 rw[aH (by omega) (by omega)];simp only[aa]
 have ec:db (a.1,a.2.1,a.2.2) (s:Int) (nth g.1 (x:Int))=_:=ec
 rw[ec];simp only[aa]
 have:=y8 H.2.2 H.2.1 hC
 exact this
end
def OW (g:GrT) (a:AutT) (R:List Int) (i:Nat):Bool:=decide (0<=nth R (i:Int))&&Da a ((i % a.2.1.length:Nat):Int) (nth g.1 ((i / a.2.1.length:Nat):Int))
def C4 (g:GrT) (a:AutT) (R:List Int):Nat->List Int
 | 0=>[]
 | i+1=>if OW g a R i=true then C4 g a R i++ [((i / a.2.1.length:Nat):Int)] else C4 g a R i
def Db (g:GrT) (a:AutT) (R:List Int):Nat->Nat
 | 0=>0
 | i+1=>if OW g a R i=true then Db g a R i ||| 2 ^ (i / a.2.1.length) else Db g a R i
theorem wZ (g:GrT) (a:AutT) (R:List Int): ∀i,(C4 g a R i).length<=i
 | 0=>by simp[C4]
 | i+1=>by
  have:=wZ g a R i
  rw[C4];split
  ·rw[al];simp;omega
  ·omega
theorem Gh {x:Nat} {n:Nat} (hx:x<=1000000):w7 (x:Int) (n:Int)=((x / n:Nat):Int)/\Int.tmod (x:Int) (n:Int)=((x % n:Nat):Int):=by
 refine ⟨?_,?_⟩
 ·unfold w7
  rw[Int.tdiv_eq_ediv_of_nonneg (Int.natCast_nonneg _),<-Int.natCast_ediv,pM (by have:=Nat.div_le_self x n;omega)]
 ·rw[Int.tmod_eq_emod_of_nonneg (Int.natCast_nonneg _),Int.natCast_emod]
section
variable {g:GrT} {a:AutT} (H:GOOD g a) {R:List Int} (hR:R.length=a.2.1.length*g.1.length)
include H
theorem B0 {i:Nat} (hi:i<a.2.1.length*g.1.length):i / a.2.1.length<g.1.length/\i % a.2.1.length<a.2.1.length/\0<a.2.1.length/\g.1.length<=5:=by
 obtain ⟨k1,k2⟩:=H.divmod (x:=(i:Int)) (by omega) (by omega)
 exact ⟨k1,k2,H.2.2.pos,H.1.n5⟩
theorem AJ: ∀i,i<=a.2.1.length*g.1.length->Db g a R i<2 ^ 5
 | 0,_=>by simp[Db]
 | i+1,hi=>by
  have h:=AJ i (by omega)
  obtain ⟨k1,k2,k3,k4⟩:=B0 H (i:=i) (by omega)
  rw[Db];split
  ·exact pR h (by omega)
  ·exact h
theorem Gi: ∀i,i<=a.2.1.length*g.1.length-> ∀j:Nat,((Db g a R i).testBit j=true↔(j:Int)∈C4 g a R i)
 | 0,_,j=>by simp[Db,C4]
 | i+1,hi,j=>by
  have h:=Gi i (by omega) j
  rw[Db,C4];split
  ·rw[nV,Bool.or_eq_true,h,List.mem_append,List.mem_singleton,decide_eq_true_eq]
   constructor
   ·rintro (h | h)
    ·exact .inl h
    ·exact .inr (by rw[h])
   ·rintro (h | h)
    ·exact .inl h
    ·exact .inr (Int.ofNat_inj.1 h).symm
  ·exact h
theorem AK: ∀i,i<=a.2.1.length*g.1.length-> ∀x∈C4 g a R i,∃j:Nat,j<30/\x=(j:Int)
 | 0,_,x,hx=>by cases hx
 | i+1,hi,x,hx=>by
  obtain ⟨k1,k2,k3,k4⟩:=B0 H (i:=i) (by omega)
  rw[C4] at hx;split at hx
  ·rcases aD hx with hx | hx
   ·exact AK i (by omega) x hx
   ·exact ⟨_,by omega,aw hx⟩
  ·exact AK i (by omega) x hx
include hR
theorem Ov:aF (fL g a R) a8 (0,0)=some (.brk ((Db g a R (a.2.1.length*g.1.length):Int),((a.2.1.length*g.1.length:Nat):Int))):=by
 have hN:=nN H.1 H.2.2 H.2.1
 have:=ba (f:=fL g a R) (fun i=>((Db g a R i:Int),(i:Int))) (a.2.1.length*g.1.length) (fun i hi=>by
  obtain ⟨k1,k2,k3,k4⟩:=B0 H hi
  obtain ⟨q1,q2⟩:=Gh (x:=i) (n:=a.2.1.length) (by omega)
  have hs:=AJ H (R:=R) i (by omega)
  unfold fL
  simp only
  rw[if_pos (by simp only[decide_eq_true_eq];omega),aH (by omega) (by omega),fB (by omega),q1,q2,aE (by omega)];simp only[aa]
  have ea:fK (g.1,g.2) (a.1,a.2.1,a.2.2) ((i / a.2.1.length:Nat):Int) ((i % a.2.1.length:Nat):Int)=_:=Gg H k1 k2
  rw[ea,Db];simp only[aa]
  unfold OW
  by_cases c:0<=nth R (i:Int)
  ·rw[if_pos (by simpa using c),decide_eq_true c,Bool.true_and]
   cases Da a ((i % a.2.1.length:Nat):Int) (nth g.1 ((i / a.2.1.length:Nat):Int)) with
   | false=>rfl
   | true =>
    simp only[if_true]
    rw[fB (Int.natCast_nonneg _),qF (by omega),BS (az hs (Nat.pow_le_pow_right (by decide) (by decide))) (Nat.pow_lt_pow_right (by decide) (by omega))];rfl
  ·rw[if_neg (by simpa using c),decide_eq_false c,Bool.false_and];rfl) (by unfold fL;simp only;rw[if_neg (by simp;omega)]) (lX (by omega))
 exact this
theorem Ow:aF (cX g a R) a8 (([] :List Int),0)=some (.brk (C4 g a R (a.2.1.length*g.1.length),((a.2.1.length*g.1.length:Nat):Int))):=by
 have hN:=nN H.1 H.2.2 H.2.1
 have:=ba (f:=cX g a R) (fun i=>(C4 g a R i,(i:Int))) (a.2.1.length*g.1.length) (fun i hi=>by
  obtain ⟨k1,k2,k3,k4⟩:=B0 H hi
  obtain ⟨q1,q2⟩:=Gh (x:=i) (n:=a.2.1.length) (by omega)
  have hl:=wZ g a R i
  have hv:=H.1.val _ (bP (xs:=g.1) (i:=((i / a.2.1.length:Nat):Int)) (Int.natCast_nonneg _) (Int.ofNat_lt.2 k1))
  unfold cX
  simp only
  rw[if_pos (by simp only[decide_eq_true_eq];omega),aH (by omega) (by omega),fB (by omega),q1,q2,aE (by omega),fB (Int.natCast_nonneg _)];simp only[aa]
  have ea:gE (a.1,a.2.1,a.2.2) (rk 1 ((i % a.2.1.length:Nat):Int)) (nth g.1 ((i / a.2.1.length:Nat):Int))=_:=AI H.2.2 H.2.1 ⟨Int.natCast_nonneg _,Int.ofNat_lt.2 k2⟩ hv
  rw[aH (xs:=g.1) (i:=((i / a.2.1.length:Nat):Int)) (Int.natCast_nonneg _) (Int.ofNat_lt.2 k1)];simp only[aa]
  rw[ea,C4];simp only[aa]
  unfold OW
  by_cases c:0<=nth R (i:Int)
  ·rw[if_pos (by simpa using c),decide_eq_true c,Bool.true_and]
   cases Da a ((i % a.2.1.length:Nat):Int) (nth g.1 ((i / a.2.1.length:Nat):Int)) with
   | false=>rfl
   | true =>
    simp only[if_true]
    rw[aR (by simp;omega)];rfl
  ·rw[if_neg (by simpa using c),decide_eq_false c,Bool.false_and];rfl) (by unfold cX;simp only;rw[if_neg (by simp;omega)]) (lX (by omega))
 exact this
end
def MQ (g:GrT) (a:AutT) (x:Int):List Int:=c7 (Db g a (RKs g a (x*(a.2.1.length:Int)+a.1)) (a.2.1.length*g.1.length)) 30
theorem IX (g:GrT) (a:AutT) (x:Int):(MQ g a x).length<=30:=iE _ _
section
variable {g:GrT} {a:AutT} (H:GOOD g a) {x:Int} (hx:0<=x/\x<g.1.length)
include H hx
theorem IY:lK g a x=some (MQ g a x):=by
 unfold lK
 have e:fb (g.1,g.2) (a.1,a.2.1,a.2.2) x=_:=FZ H hx
 have hR:=vp H hx
 rw[e];simp only[aa]
 rw[aG (Ov H hR),PL (az (AJ H _ (aB _)) (Nat.pow_le_pow_right (by decide) (by decide)))];rfl
theorem Ox (e:cH g a [x] =some true):fj g a x=some (MQ g a x):=by
 have hN:=nN H.1 H.2.2 H.2.1
 have hp:=H.2.2.pos
 have h1:=H.1.n1
 have hpp:0<a.2.1.length*g.1.length:=Nat.mul_pos hp (by omega)
 unfold fj
 have e:bK (g.1,g.2) (a.1,a.2.1,a.2.2) x=_:=JU H hx e
 have hR:=vp H hx
 rw[e];simp only[aa]
 have hl:=wZ g a (RKs g a (x*(a.2.1.length:Int)+a.1)) (a.2.1.length*g.1.length)
 rw[if_neg (by simp only[decide_eq_true_eq];omega),aG (Ow H hR),AH _ (by simp only;omega)];simp only[aa]
 unfold MQ
 rw[Mz (AK H _ (aB _)) fun i _=>Gi H _ (aB _) i]
end
end D
set_option synthInstance.maxSize 20000
set_option synthInstance.maxHeartbeats 2000000
namespace D
open Go.RowKit
theorem AL (v:ViT) (hv:Data.sm v):dM v=some v:=by
 obtain ⟨ha,-,hr,hs⟩:=hv
 have l1:=hr.1
 have l2:=hs.1
 unfold dM
 have e1:fV (v.1.1,v.1.2.1,v.1.2.2)=_:=F5 v.1 ha
 rw[e1];simp only[aa]
 rw[aR (by simp only[aC];omega)];simp only[aa]
 rw[aR (by simp only[aC];omega)];rfl
theorem za {g:GrT} {a:AutT} (H:GOOD g a) {x:Int} (hx:0<=x/\x<g.1.length) (ha:Data.sm a) (e:cH g a [x] =some true):iR g (viewOf g a x)=some (-1):=by
 obtain ⟨l1,l2,l3⟩:=BX H hx
 have ei:a6 (g.1,g.2) ((viewOf g a x).1.1,(viewOf g a x).1.2.1,(viewOf g a x).1.2.2) (viewOf g a x).2.1=some (viewOf g a x,true):=wT H hx ha e
 unfold iR
 rw[ei];simp only[aa,if_true]
 generalize viewOf g a x=w at l1 l2
 generalize a.2.1.length*g.1.length=N at l1 l2 l3
 rw[l1,l2]
 simp only[bne_self_eq_false,Bool.false_eq_true,if_false]
 have:=ba (f:=dW w (w,true)) (fun i=>(i:Int)) N (fun i hi=>by
  unfold dW
  simp only
  rw[l1,tC,if_pos (by simpa using hi),aH (by omega) (by omega)];simp only[aa]
  rw[aH (by omega) (by omega)];simp only[aa,bne_self_eq_false,Bool.false_eq_true,if_false]
  rw[aE (by omega)]) (by
  unfold dW
  simp only
  rw[l1,tC,if_neg (by simp)]) (lX (by omega))
 rw[aG (show aF (dW w (w,true)) a8 0=_ from this)]
structure VUpd (g:GrT) (v:ViT) (h:GrT) (ok:Bool) (w:ViT×Bool):Prop where
 smw:Data.sm w.1
 smh:Data.sm h
 good:w.2=true->ok=true/\GOkF h/\GOOD h v.1/\(0<=v.2.1/\v.2.1<h.1.length)/\w.1=viewOf h v.1 v.2.1
theorem AM {g h:GrT} {v:ViT} (sg:Data.sm g) (sv:Data.sm v) (sh:Data.sm h) {ok:Bool} (hok:ok=true->GOkF h/\h.1=g.1) :
  ∃(b:Bool) (w:ViT×Bool),cP g v=some b/\eA g v h ok=some w/\(w=if ok&&b then (viewOf h v.1 v.2.1,true) else (v,false))/\(ok=true->b=true->bS h v.1 v.2.1=some (viewOf h v.1 v.2.1))/\VUpd g v h ok w:=by
 obtain ⟨b,v1,v2,-⟩:=tM g v sg sv
 obtain ⟨b',w1,w2,w3⟩:=IS sg sv sh hok
 obtain rfl:b'=b:=ae (w1.symm.trans v2)
 refine ⟨b',_,v1,w2,rfl,fun h1 h2=>?_,?_,sh,fun hw=>?_⟩
 ·obtain ⟨H2,hx2⟩:=w3 h1 h2
  exact F7 H2 hx2 sv.1
 ·by_cases c:(ok&&b')=true
  ·rw[if_pos c]
   rw[af] at c
   obtain ⟨H2,hx2⟩:=w3 c.1 c.2
   exact pX H2 sv.1 hx2
  ·rw[if_neg c];exact sv
 ·by_cases c:(ok&&b')=true
  ·rw[if_pos c]
   rw[af] at c
   obtain ⟨H2,hx2⟩:=w3 c.1 c.2
   exact ⟨c.1,(hok c.1).1,H2,hx2,rfl⟩
  ·rw[if_neg c] at hw;cases hw
theorem Gj (g:GrT) (v:ViT) (sg:Data.sm g) (sv:Data.sm v) (b:List C1): ∃(h:GrT) (ok:Bool) (w:ViT×Bool),eB g b=some (h,ok)/\iq g v b=some w/\ir g v b=some w/\VUpd g v h ok w:=by
 obtain ⟨⟨h,ok⟩,a1,a2,sh,ha⟩:=Ou g sg b
 have sh:Data.sm h:=sh
 have ha:ok=true->GOkF h/\h.1=g.1:=ha
 obtain ⟨b,w,v1,v2,hw,hb,U⟩:=AM sg sv sh ha
 refine ⟨h,ok,w,a1,?_,?_,U⟩
 ·unfold iq
  simp only[lr]
  rw[a2];simp only[aa,lr]
  rw[show eA g v h ok=_ from v2];rfl
 ·have ec:=AL v sv
  unfold ir
  simp only[lr]
  rw[a1];simp only[aa,lr]
  rw[hw]
  cases ok with
  | false=>rw[if_neg (by simp),ec];rfl
  | true =>
   rw[if_pos rfl,v1];simp only[aa]
   cases b with
   | false=>rw[if_neg (by simp),ec];rfl
   | true=>rw[if_pos rfl,show bS h v.1 v.2.1=_ from hb rfl rfl];rfl
theorem MA (g:GrT) (v:ViT) (sg:Data.sm g) (sv:Data.sm v) (e:Gc): ∃(h:GrT) (ok:Bool) (w:ViT×Bool),ep g e=some (h,ok)/\dN g v e=some w/\dO g v e=some w/\VUpd g v h ok w:=by
 obtain ⟨⟨h,ok⟩,a1,a2,sh,ha⟩:=wW g sg e
 have sh:Data.sm h:=sh
 have ha:ok=true->GOkF h/\h.1=g.1:=ha
 obtain ⟨b,w,v1,v2,hw,hb,U⟩:=AM sg sv sh ha
 refine ⟨h,ok,w,a1,?_,?_,U⟩
 ·unfold dN
  simp only[lr]
  rw[a2];simp only[aa,lr]
  rw[show eA g v h ok=_ from v2];rfl
 ·have ec:=AL v sv
  unfold dO
  simp only[lr]
  rw[a1];simp only[aa,lr]
  rw[hw]
  cases ok with
  | false=>rw[if_neg (by simp),ec];rfl
  | true =>
   rw[if_pos rfl,v1];simp only[aa]
   cases b with
   | false=>rw[if_neg (by simp),ec];rfl
   | true=>rw[if_pos rfl,show bS h v.1 v.2.1=_ from hb rfl rfl];rfl
theorem MB (g:GrT) (v:ViT) (sg:Data.sm g) (sv:Data.sm v) (id:Int): ∃(h:GrT) (ok:Bool) (w:ViT×Bool),er g id=some (h,ok)/\dP g v id=some w/\dQ g v id=some w/\VUpd g v h ok w:=by
 obtain ⟨⟨h,ok⟩,a1,a2,sh,ha⟩:=wU g sg id
 have sh:Data.sm h:=sh
 have ha:ok=true->GOkF h/\h.1=g.1:=fun hk=>⟨(ha hk).1,(ha hk).2.1⟩
 obtain ⟨b,w,v1,v2,hw,hb,U⟩:=AM sg sv sh ha
 refine ⟨h,ok,w,a1,?_,?_,U⟩
 ·unfold dP
  simp only[lr]
  rw[a2];simp only[aa,lr]
  rw[show eA g v h ok=_ from v2];rfl
 ·have ec:=AL v sv
  unfold dQ
  simp only[lr]
  rw[a1];simp only[aa,lr]
  rw[hw]
  cases ok with
  | false=>rw[if_neg (by simp),ec];rfl
  | true =>
   rw[if_pos rfl,v1];simp only[aa]
   cases b with
   | false=>rw[if_neg (by simp),ec];rfl
   | true=>rw[if_pos rfl,show bS h v.1 v.2.1=_ from hb rfl rfl];rfl
theorem PN {xs:List Int} (hl:xs.length<=1048576): ∃r:GrT×ViT×List C1,eE xs=some r/\Data.sm r.1/\Data.sm r.2.1:=by
 unfold eE
 obtain ⟨r0,e0,k0⟩:=L8 hl
 rw[e0];simp only[aa]
 obtain ⟨r1,e1,h1,h2,k1⟩:=F8 (h:=r0.2) hl k0
 rw[e1];simp only[aa]
 obtain ⟨r2,e2,-,-⟩:=My (h:=r1.2.2.2) hl k1 h1 (m:=5) (by decide)
 have e2:jA (xs,r1.2.2.1,r1.2.2.2) (r1.1.1,r1.1.2) 5=_:=e2
 rw[e2]
 exact ⟨_,rfl,h1,h2⟩
theorem Oy {xs:List Int} (hl:xs.length<=1048576): ∃r:GrT×ViT×Gc,cB xs=some r/\Data.sm r.1/\Data.sm r.2.1:=by
 unfold cB
 obtain ⟨r0,e0,k0⟩:=L8 hl
 rw[e0];simp only[aa]
 obtain ⟨r1,e1,h1,h2,k1⟩:=F8 (h:=r0.2) hl k0
 rw[e1];simp only[aa]
 obtain ⟨r2,e2,-⟩:=JW (h:=r1.2.2.2) hl k1 r1.1
 have e2:gX (xs,r1.2.2.1,r1.2.2.2) (r1.1.1,r1.1.2)=_:=e2
 rw[e2]
 exact ⟨_,rfl,h1,h2⟩
theorem Oz {xs:List Int} (hl:xs.length<=1048576): ∃r:GrT×ViT×Int,cC xs=some r/\Data.sm r.1/\Data.sm r.2.1:=by
 unfold cC
 obtain ⟨r0,e0,k0⟩:=L8 hl
 rw[e0];simp only[aa]
 obtain ⟨r1,e1,h1,h2,k1⟩:=F8 (h:=r0.2) hl k0
 rw[e1];simp only[aa]
 obtain ⟨r2,e2,-⟩:=Qs (h:=r1.2.2.2) hl k1 r1.1
 have e2:py (xs,r1.2.2.1,r1.2.2.2) (r1.1.1,r1.1.2)=_:=e2
 rw[e2]
 exact ⟨_,rfl,h1,h2⟩
theorem C5 (xs:List Int) (hx:Data.lim xs):lL xs=some true:=by
 unfold lL Af
 simp only[aa]
 by_cases c:(xs.length:Int)>1048576
 ·rw[if_pos (by simpa using c)]
 rw[if_neg (by simpa using c)]
 have hl:xs.length<=1048576:=by omega
 have nf: ∀p:Bool,(p !=p)=false:=fun p=>by cases p <;> rfl
 obtain ⟨⟨g,v,b⟩,e1,sg,sv⟩:=PN hl
 have sg:Data.sm g:=sg
 have sv:Data.sm v:=sv
 rw[e1];simp only[aa,lr]
 obtain ⟨h,ok,w,a1,w1,w2,U⟩:=Gj g v sg sv b
 rw[w1,w2];simp only[aa,lr]
 rw[nf,wV w.1 w.1 U.smw,decide_eq_true rfl,a1];simp only[aa,lr,Bool.false_eq_true,if_false,if_true]
 obtain ⟨⟨g2,v2,e⟩,f1,sg2,sv2⟩:=Oy hl
 have sg2:Data.sm g2:=sg2
 have sv2:Data.sm v2:=sv2
 obtain ⟨h2,ok2,x2,-,y1,y2,U2⟩:=MA g2 v2 sg2 sv2 e
 obtain ⟨⟨g3,v3,id⟩,f3,sg3,sv3⟩:=Oz hl
 have sg3:Data.sm g3:=sg3
 have sv3:Data.sm v3:=sv3
 obtain ⟨h3,ok3,x3,-,z1,z2,U3⟩:=MB g3 v3 sg3 sv3 id
 rw[f1,f3];simp only[aa,lr]
 rw[y1,y2,z1,z2];simp only[aa,lr]
 rw[rL x2.1 x2.1 U2.smw,rL x3.1 x3.1 U3.smw,decide_eq_true rfl,decide_eq_true rfl]
 simp only[aa,beq_self_eq_true,if_true]
 cases hk:w.2 with
 | false =>
  simp only[Bool.false_eq_true,if_false];rfl
 | true =>
  obtain ⟨rfl,G,H,hx2,hw⟩:=U.good hk
  obtain ⟨q,g1,g2',g3'⟩:=wQ h v.1 U.smh sv.1 v.2.1
  obtain rfl:q=true:=g3'.2 ⟨⟨G,H⟩,hx2⟩
  have eb:a6 h v.1 v.2.1=some (viewOf h v.1 v.2.1,true):=wT H hx2 sv.1 g2'
  have sw:=pX H sv.1 hx2
  simp only[if_true]
  rw[eb];simp only[aa,if_true,lr]
  rw[hw,rL _ _ sw,decide_eq_true rfl];simp only[aa,if_true]
  have et:gG h (viewOf h v.1 v.2.1)=some (MQ h v.1 v.2.1):=by
   unfold gG cj
   simp only[lr]
   rw[show a6 h (viewOf h v.1 v.2.1).1 (viewOf h v.1 v.2.1).2.1=_ from eb];simp only[aa,if_true,lr]
   rw[wV _ _ sw,decide_eq_true rfl];simp only[aa,if_true]
   rw[show fj h (viewOf h v.1 v.2.1).1 (viewOf h v.1 v.2.1).2.1=_ from Ox H hx2 g2'];rfl
  have ef:gH h v.1 v.2.1=some (MQ h v.1 v.2.1):=by
   unfold gH
   simp only[lr]
   rw[g1];simp only[aa,if_true]
   rw[IY H hx2];rfl
  rw[et,ef];simp only[aa]
  rw[F9 (by have:=IX h v.1 v.2.1;omega)];simp only[aa,if_true]
  rw[za H hx2 sv.1 g2'];rfl
end D
open Go.ChangeShapes Go.WideShapes Go.ChangeAt Go.RowKit
namespace D
theorem op5:Opens Tryz.prog 5 rU8:=Ip Tryz.underlying5
theorem Qw:Opens Tryz.prog 22 (ak 5 rU8):=Ar Tryz.underlying22 (by kernel_rfl) (by decide) op5
theorem PO {W:World} {base:Nat} {z:Value} {H:Type} {enc:TypeId×Value->H} {d:DataW H} {p:List MemPlace} (hv:Value.okWide Tryz.prog W .any base 22 z) (h:DataW.Trod enc Tryz.prog W 0 (fun _=>true) true 22 z d p) :
  ∃(x:List Int) (v0:Value),z=v0/\Data.lim x/\(ak 5 rU8).rd (hp W) [v0] x:=by
 obtain ⟨fuel,hf⟩:=h
 obtain ⟨a,l,c,rfl⟩:=okWide_slice Tryz.underlying22 hv
 obtain ⟨x,hx,hl⟩:=Qw.out enc W _ _ _ hf
 exact ⟨x,_,rfl,hl,hx⟩
end D
open D (Data)
theorem AN (W:World) (args:Array Value) (H:Type) (enc:TypeId×Value->H) (base:Nat) (ds gs:List (DataW H)) (before:List MemPlace)
  (hval: ∀(j:Nat) t v,Tryz.f3.params[j]? =some t->args[j]? =some v->Value.okWide Tryz.prog W .any base t v)
  (hW:DataW.Whole enc Tryz.prog Tryz.f3.params.toList Rows.fnViewsSpec.vars false W args.toList ds gs before) :
  Calls Tryz.prog 3 args W fun e W'=> ∃v,e= .returned v/\Rows.fnViewsSpec.post enc Tryz.prog Tryz.f3 false true false false W args v W':=by
 have hW':=hW
 obtain ⟨p,q,hA,hV,rfl,hfz,hnd⟩:=hW
 rw[Tryz.params3] at hA hval
 obtain ⟨z0,vs0,d0,ds0,p0,q0,hargs,rfl,rfl,h0,r0⟩:=trodAll_cons hA
 obtain ⟨rfl,rfl,rfl⟩:=trodAll_nil r0
 obtain rfl:args= #[z0]:=by cases args;simp_all
 obtain ⟨rfl,rfl⟩:=trodVars_none hV
 obtain ⟨x0,v0_0,rfl,l0,r0_0⟩:=D.PO (hval 0 _ _ rfl rfl) h0
 have hc:=D.Aq x0 true (D.C5 x0 l0) (I:=D.hp W) (w0:=W) z0 r0_0 D.Lay.all W [] (D.St.init W)
 refine hc.mono fun e W' ⟨v,he,hv,hs⟩=>?_
 subst he;subst hv
 exact ⟨_,rfl,IM (f:=Tryz.f3) (s:=Rows.fnViewsSpec) 4 Tryz.underlying4 rfl (by kernel_rfl) rfl hW' rfl rfl rfl (D.St.below hs)⟩
theorem um (os:Os) (started:os.Started) (H:Type) (enc:TypeId×Value->H) :
  ReturnsInHanded {} Tryz.checked os 3 .any (Rows.fnViewsSpec.pre6 enc Tryz.prog Tryz.f3 Rows.fnViewsRow.domain false) (Rows.fnViewsSpec.post enc Tryz.prog Tryz.f3 false true false false):=by
 refine returnsInHanded_of_change_sized (C:=Tryz.checked) own started (by kernel_rfl) Tryz.func3
  (ChangeSpec.witness6 (enc:=enc) (C:=Tryz.checked) false ⟨#[],#[.slice none 0 0],[]⟩ 8 (by kernel_rfl) (by kernel_rfl) (by kernel_rfl) (by kernel_rfl)) ?_
 intro W base args ds gs before hval hW hcnd hsz _
 exact AN W args H enc base ds gs before hval hW
set_option maxHeartbeats 4000000 in
theorem uo:joinedFacts Tryz.pinned.checked.prog 3 Tryz.f3 Rows.fnViewsSpec Rows.fnViewsRow=true:=by
 unfold joinedFacts
 repeat' (with_reducible refine Bool.and_eq_true_iff.2 ⟨?_,?_⟩)
 all_goals as_aux_lemma=>kernel_rfl
theorem holdsLFnViews:Rows.FnViewsSaid:=
 OpenClaim.holds_of_wide 3 Tryz.f3 rfl rfl rfl rfl rfl rfl rfl ⟨rfl,rfl,rfl,rfl,rfl⟩ rfl rfl rfl rfl rfl (by kernel_rfl) Tryz.func3 uo
  (of_decide_eq_true (by kernel_rfl)) (by unfold Func.isWrapper;first | (rw[if_pos (by decide +kernel)];kernel_rfl) | (rw[if_neg (by decide +kernel)];exact ⟨rfl,rfl⟩))
  (fun os started H enc _=>um os started H enc)
end Go.Proofs.YtgfhbkngckodnaaGreat
