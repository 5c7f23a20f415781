/- FnExactEngineRegister: for every input the law returns true and changes nothing that was there. Part 8 of 9. -/
import Derived.Test.YtcobhgbgllfniaaGreatDoorEC6
set_option linter.unusedVariables false
set_option linter.unusedSimpArgs false
set_option linter.unnecessarySimpa false
set_option linter.unusedSectionVars false
set_option maxRecDepth 1000000
namespace Go.Proofs.YtcobhgbgllfniaaGreatDoor
namespace R
open Go.RowKit
open D
theorem B0:FOk Tryz.prog 82 tU:=fk [(150,sn),(151,vR)] ⟨yB,Ee,trivial⟩ Tryz.func82 (.two .no (.two (.two .no (.loop [.slot 1 (.num .i64),.slot 5 (.num .i64)] .no)) .no))
theorem Be:FOk Tryz.prog 26 so:=fk [(82,tU)] ⟨B0,trivial⟩ Tryz.func26 .no
theorem Ef:FOk Tryz.prog 236 vS:=fk [] trivial Tryz.func236 (.two .no (.two (.two .no (.loop [.slot 1 (.num .i64),.slot 5 (.num .i64)] .no)) .no))
theorem Eg:FOk Tryz.prog 237 vT:=fk [(150,sn)] ⟨yB,trivial⟩ Tryz.func237 (.two .no (.two (.two .no (.loop [.slot 1 (.num .i64),.slot 5 (.num .i64)] .no)) .no))
theorem wh:FOk Tryz.prog 166 oK:=fk [(236,vS),(237,vT)] ⟨Ef,Eg,trivial⟩ Tryz.func166 (.two .no (.two (.two .no (.loop [.slot 1 (.num .i64),.slot 5 (.num .i64)] .no)) .no))
theorem B1:FOk Tryz.prog 238 tV:=fk [] trivial Tryz.func238 (.two .no (.two (.two .no (.loop [.slot 1 (.num .i64),.slot 5 (.num .i64)] .no)) .no))
theorem uQ:FOk Tryz.prog 167 nS:=fk [(238,tV)] ⟨B1,trivial⟩ Tryz.func167 (.two .no (.two (.two .no (.loop [.slot 1 (.num .i64),.slot 5 (.num .i64)] .no)) .no))
theorem yZ:FOk Tryz.prog 97 q9:=fk [(166,oK),(167,nS)] ⟨wh,uQ,trivial⟩ Tryz.func97 .no
theorem uR:FOk Tryz.prog 98 nT:=fk [] trivial Tryz.func98 (.two .no (.two (.two .no (.loop [.slot 1 (.num .i64),.slot 5 (.num .i64)] .no)) .no))
theorem B2:FOk Tryz.prog 37 tW:=fk [(26,so),(97,q9),(98,nT)] ⟨Be,yZ,uR,trivial⟩ Tryz.func37 .no
theorem oZ:FOk Tryz.prog 6 oY:=fk [(27,xZ),(28,yd),(29,yg),(30,w7),(31,oC),(32,w9),(33,oH),(34,xb),(35,tT),(36,yn),(37,tW)] ⟨Gz,GD,GG,CT,vX,CV,we,CX,BZ,GM,B2,trivial⟩ Tryz.func6 .no
end R
namespace D
open Go.RowKit
theorem o0 (x0:(Int×Yq5)×Yq7×Yq8×ByteArray) (x1:Int) (x2:Yq1) (r:Bool) (hm:de x0 x1 x2=some r) {I:Hp} {w0:World} (v0_0:Value) (v0_1:Value) (v0_2:Value) (v0_3:Value) (v2_0:Value) (r0_0:(ah 174 (aH (ah 3 a7) (ah 280 (aH a7 (aH a7 (aH a7 a7)))))).rd I [v0_0] x0.1.2) (r0_1:(ah 245 (aH a7 (aH (ah 4 od) (ah 83 (ah 3 a7))))).rd I [v0_1] x0.2.1.1) (r0_2:(ah 248 (aH a7 (aH (ah 190 (aH a7 (aH a7 (aH a7 a7)))) a7))).rd I [v0_2] x0.2.1.2) (r0_3:(ah 183 (aH a7 (aH a7 a7))).rd I [v0_3] x0.2.2.1) (r2_0:(ah 190 (aH a7 (aH a7 (aH a7 a7)))).rd I [v2_0] x2) (hL:Lay Tryz.prog I):Con Tryz.prog 6 #[.agg #[.int .i64 x0.1.1,v0_0,v0_1,v0_2,v0_3,.string x0.2.2.2],.int .i64 x1,.agg #[v2_0]] I w0 [] (fun v=>v= .bool r) (fun _=>[]):=fun w C hs =>
 ((R.oZ).con rfl w0 I undef [.agg #[.int .i64 x0.1.1,v0_0,v0_1,v0_2,v0_3,.string x0.2.2.2],.int .i64 x1,.agg #[v2_0]] (x0,(x1,(x2,()))) r hL ⟨_,_,rfl,⟨[.int .i64 x0.1.1,v0_0,v0_1,v0_2,v0_3,.string x0.2.2.2],rfl,⟨_,_,rfl,⟨_,_,rfl,rfl,r0_0⟩,⟨_,_,rfl,⟨_,_,rfl,r0_1,r0_2⟩,⟨_,_,rfl,r0_3,rfl⟩⟩⟩⟩,⟨_,_,rfl,⟨[.int .i64 x1],rfl,rfl⟩,⟨_,_,rfl,⟨[v2_0],rfl,r2_0⟩,rfl⟩⟩⟩ hm w C hs).mono fun e w' ⟨v,he,_,hst⟩=>by
  obtain ⟨h1,h2⟩:=R.vn (h1:=fun _=>rfl) (show St I w0 w' (Ch.own R.Ty.bool.rep [v] r::C) from hst)
  exact ⟨v,he,(List.cons.inj h1).1,h2⟩
end D
namespace D
open Go.RowKit
def I64 (n:Int):Prop:= -9223372036854775808<=n/\n<=9223372036854775807
class Data (α:Type) where
 lim:α->Prop
 sm:α->Prop
instance:Data Int:=⟨I64,fun _=>True⟩
instance:Data Bool:=⟨fun _=>True,fun _=>True⟩
instance:Data ByteArray:=⟨fun s=>s.size<=9223372036854775807,fun s=>s.size<=1048576⟩
instance {α β:Type} [Data α] [Data β] :Data (α×β):=⟨fun x=>Data.lim x.1/\Data.lim x.2,fun x=>Data.sm x.1/\Data.sm x.2⟩
instance {α:Type} [Data α] :Data (List α):=⟨fun xs=>xs.length<=9223372036854775807/\ ∀x,x∈xs->Data.lim x,fun xs=>xs.length<=1048576/\ ∀x,x∈xs->Data.sm x⟩
structure Opens (P:Program) (t:TypeId) {α:Type} [Data α] (R:Rep α):Prop where
 out: ∀ {H:Type} (enc:TypeId×Value->H) (w:World) (fuel:Nat) (cs:List Value) (x:DataW H×List MemPlace),DataW.trod enc P w 0 (fun _=>true) true fuel t cs=some x-> ∃a:α,R.rd (hp w) cs a/\Data.lim a
theorem Ov {P:Program} {t:TypeId} (h:P.underlying t=some (.int .i64)):Opens P t a7:=by
 constructor
 intro H enc w fuel cs x hx
 obtain ⟨n,rfl,-,hw⟩:=DataW.trod_int h hx
 refine ⟨n,rfl,show I64 n from ?_⟩
 simp[Lit.wf,IntKind.min,IntKind.max,IntKind.signed,IntKind.bits] at hw
 unfold I64
 omega
theorem LA {P:Program} {t:TypeId} (h:P.underlying t=some .bool):Opens P t od:=by
 constructor
 intro H enc w fuel cs x hx
 obtain ⟨n,rfl,-⟩:=DataW.trod_bool h hx
 exact ⟨n,rfl,trivial⟩
theorem GN {P:Program} {t:TypeId} (h:P.underlying t=some .string):Opens P t Da:=by
 constructor
 intro H enc w fuel cs x hx
 obtain ⟨n,rfl,-,hm⟩:=DataW.trod_string h hx
 exact ⟨n,rfl,show n.size<=_ by unfold maxLen at hm;omega⟩
theorem gm {P:Program} {t e:TypeId} {α:Type} [Data α] {R:Rep α} {E:TypeId} (h:P.underlying t=some (.slice e)) (hc:P.cellsOf e=R.size) (h0:0<R.size) (he:Opens P e R):Opens P t (ah E R):=by
 constructor
 intro H enc w fuel cs x hx
 rcases Go.Deep.open_slice h hx with ⟨rfl,-⟩ | ⟨a,len,cap,m,n,D,Pl,rfl,-,hl,hm,hmm,-,hel⟩
 ·exact ⟨[],⟨none,0,rfl,by simp,.inl rfl⟩,Nat.zero_le _,fun x hx=>by cases hx⟩
 have hlm:m=cap:=by simpa using hmm
 subst hlm
 rw[hc] at hel
 by_cases hz:len=0
 ·subst hz
  exact ⟨[],⟨some a,m,rfl,by simp,.inl rfl⟩,Nat.zero_le _,fun x hx=>by cases hx⟩
 ·have hone: ∀i,i<len-> ∃c:List Value,∃y:α,c.length=R.size/\(∀j,j<R.size->w.cell? ((a.add (i*R.size)).add j)=c[j]?)/\R.rd (hp w) c y/\Data.lim y:=by
   intro i hi
   obtain ⟨c,h1,h2⟩:=hel i (by omega)
   obtain ⟨-,h3,h4⟩:=World.cells?_some h1
   obtain ⟨y,hy⟩:=he.out enc w _ _ _ h2
   exact ⟨c,y,h3,h4,hy⟩
  obtain ⟨c0,y0,hc0,hr0,-⟩:=hone 0 (by omega)
  have h00:=hr0 0 h0
  have hsome: ∃v,c0[0]? =some v:=⟨_,List.getElem?_eq_getElem (by omega)⟩
  obtain ⟨v,hv⟩:=hsome
  rw[hv] at h00
  have ha:(a.add (0*R.size)).add 0=a:=by simp[Addr.add]
  rw[ha] at h00
  obtain ⟨b,off,spot⟩:=a
  have hb: ∃ccs T fr,w.heap[b]? =some (.cells ccs T fr)/\spot=none:=by
   simp only[World.cell?] at h00
   split at h00
   ·rename_i ccs T fr heq
    cases spot with
    | none=>exact ⟨ccs,T,fr,heq,rfl⟩
    | some s=>simp at h00
   ·simp at h00
  obtain ⟨ccs,T,fr,hh,rfl⟩:=hb
  have hadd: ∀i j,(Addr.add ⟨b,off,none⟩ i).add j=⟨b,off+i+j,none⟩:=by
   intro i j
   by_cases h1:i=0 <;> by_cases h2:j=0 <;> simp[Addr.add,h1,h2,Nat.add_assoc]
  haveI:Inhabited α:=⟨y0⟩
  obtain ⟨X,hX⟩:=Go.Deep.choose_lt (α:=α) (n:=len) (p:=fun i y=> ∃c:List Value,c.length=R.size/\(∀j,j<R.size->ccs.toList[off+i*R.size+j]? =c[j]?)/\R.rd (hp w) c y/\Data.lim y) (fun i hi=>by
   obtain ⟨c,y,h1,h2,h3⟩:=hone i hi
   refine ⟨y,c,h1,fun j hj=>?_,h3⟩
   have:=h2 j hj
   rw[hadd] at this
   simp only[World.cell?,hh] at this
   simpa using this)
  have hlen:((List.range len).map X).length=len:=by simp
  have hel2: ∀i y,((List.range len).map X)[i]? =some y->i<len/\y=X i:=fun i y hy=>by
   have hi:i<len:=by have:=(List.getElem?_eq_some_iff.1 hy).1;omega
   exact ⟨hi,by simpa [hi] using hy.symm⟩
  refine ⟨(List.range len).map X,⟨some ⟨b,off,none⟩,m,by rw[hlen],by rw[hlen];unfold maxLen at hm;unfold lim;omega,.inr ⟨b,off,ccs,T,fr,rfl,hh,fun i y hy=>?_⟩⟩,by rw[hlen];unfold maxLen at hm;omega,fun y hy=>?_⟩
  ·obtain ⟨hi,rfl⟩:=hel2 i y hy
   obtain ⟨c,e1,e2,e3,-⟩:=hX i hi
   exact ⟨c,e1,e2,e3⟩
  ·obtain ⟨i,hi,he⟩:=List.mem_iff_getElem?.1 hy |>.imp fun i hi=>hel2 i y hi
   obtain ⟨-,-,-,-,e4⟩:=hX i hi
   rw[he];exact e4
structure OpensFs (P:Program) (fs:List Field) (o:Nat) {α:Type} [Data α] (R:Rep α):Prop where
 out: ∀ {H:Type} (enc:TypeId×Value->H) (w:World) (fuel:Nat) (cs:List Value),cs.length=o+R.size->
  (∀f∈fs,∃x,DataW.trod enc P w 0 (fun _=>true) true fuel f.type ((cs.drop f.offset).take (P.cellsOf f.type))=some x)-> ∃a:α,R.rd (hp w) (cs.drop o) a/\Data.lim a
theorem gD {P:Program} {f:Field} {o:Nat} {α:Type} [Data α] {R:Rep α} (ho:f.offset=o) (hc:P.cellsOf f.type=R.size) (h:Opens P f.type R):OpensFs P [f] o R:=by
 constructor
 intro H enc w fuel cs hl hx
 obtain ⟨x,hx⟩:=hx f (by simp)
 rw[ho,hc,List.take_of_length_le (by rw[aS];omega)] at hx
 exact h.out enc w _ _ _ hx
theorem cq {P:Program} {f:Field} {fs:List Field} {o:Nat} {α β:Type} [Data α] [Data β] {R:Rep α} {S:Rep β} (ho:f.offset=o) (hc:P.cellsOf f.type=R.size) (h:Opens P f.type R) (hs:OpensFs P fs (o+R.size) S):OpensFs P (f::fs) o (aH R S):=by
 constructor
 intro H enc w fuel cs hl hx
 have hl':cs.length=o+(R.size+S.size):=hl
 obtain ⟨b,hb,hlb⟩:=hs.out enc w fuel cs (by omega) (fun g hg=>hx g (by simp[hg]))
 obtain ⟨x,hx⟩:=hx f (by simp)
 rw[ho,hc] at hx
 obtain ⟨a,ha,hla⟩:=h.out enc w _ _ _ hx
 refine ⟨(a,b),⟨(cs.drop o).take R.size,cs.drop (o+R.size),?_,ha,hb⟩,hla,hlb⟩
 rw[<-List.drop_drop,List.take_append_drop]
theorem dJ {P:Program} {t:TypeId} {fs:Array Field} {α:Type} [Data α] {R:Rep α} (h:P.underlying t=some (.struct fs)) (hc:P.cellsOf t=R.size) (hf:OpensFs P fs.toList 0 R):Opens P t R:=by
 constructor
 intro H enc w fuel cs x hx
 obtain ⟨xs,n,-,-,hl,hn,hel⟩:=DataW.trod_struct h hx
 have:=hf.out enc w n cs (by omega) (fun f hm=>by
  obtain ⟨i,hi,rfl⟩:=List.getElem_of_mem hm
  have h1:fs[i]? =some fs.toList[i]:=by simp
  exact ⟨_,(hel i _ h1).trans (List.getElem?_eq_getElem (by simp at hi;omega))⟩)
 simpa using this
theorem St.below {w0 w:World} {cs:List Ch} (h:St (hp w0) w0 w cs):Below w0.heap.size w0 w:=by
 obtain ⟨⟨h1,h2,h3,h4⟩,h5,-⟩:=h
 refine ⟨h1,h2,h3,h4,fun b hb=>?_⟩
 have e:w0.heap[b]? =some w0.heap[b]:=Array.getElem?_eq_getElem hb
 rw[e];exact h5 b _ e
end D
namespace D
open Go.RowKit
theorem fg {n:Int} (h1: -9223372036854775808<=n) (h2:n<=9223372036854775807):IntKind.i64.wrap n=n:=by
 simp only[IntKind.wrap,IntKind.bits,IntKind.signed,Bool.true_and]
 split <;> rename_i h <;> simp at h <;> omega
theorem af {i:Nat} (h:i<9223372036854775807):IntKind.i64.wrap ((i:Int)+1)=((i+1:Nat):Int):=by
 rw[fg (by omega) (by omega)];rfl
theorem aE {α:Type} {xs:List α} {i:Nat} (h:i<xs.length):aQ xs (i:Int)=some (xs[i]):=by
 unfold aQ
 rw[if_pos (Int.natCast_nonneg _)]
 simp[h]
theorem bM {i n:Nat} (h:i<n):decide ((i:Int)<(n:Int))=true:=by simp[h]
theorem bq {n:Nat} :decide ((n:Int)<(n:Int))=false:=by simp
theorem dK (k:Nat) (h:k<=9223372036854775807):k<aW:=by unfold aW;omega
theorem wi {α:Type} {b n:Nat} {z:α} (h:n*b<=140737488355328):mkI b (n:Int) z=some (List.replicate n z):=by
 unfold mkI
 rw[if_pos ⟨Int.natCast_nonneg _,by simpa using h⟩];simp
theorem GO {R S:Type} {f:S->Option (Out R S)} (inv:Nat->S) (N:Nat) (h: ∀i,i<N->f (inv i)=some (.nxt (inv (i+1)))): ∀(m i k:Nat),i+m=N->az f (k+m) (inv i)=az f k (inv N)
 | 0,i,k,e=>by rw[show i=N by omega];rfl
 | m+1,i,k,e=>by
  rw[<-Nat.add_assoc,az,h i (by omega)]
  exact GO inv N h m (i+1) k (by omega)
theorem GP {R S:Type} {f:S->Option (Out R S)} (inv:Nat->S) (N:Nat) {s:S} (h: ∀i,i<N->f (inv i)=some (.nxt (inv (i+1)))) (he:f (inv N)=some (.brk s)) (hN:N<aW):az f aW (inv 0)=some (.brk s):=by
 have e:aW=(aW - N - 1)+1+N:=by omega
 rw[e,GO inv N h N 0 _ (by omega),az,he]
theorem toL {R α:Type} {f:List α×Int->Option (Out R (List α×Int))} {z:α} (xs:List α) (hN:xs.length<=9223372036854775807)
  (hstep: ∀ys i (h:i<xs.length),ys.length=xs.length->f (ys,(i:Int))=some (.nxt (ys.set i xs[i],((i+1:Nat):Int)))) (hend: ∀ys,ys.length=xs.length->f (ys,(xs.length:Int))=some (.brk (ys,(xs.length:Int)))) :
  az f aW (List.replicate xs.length z,0)=some (.brk (xs,(xs.length:Int))):=by
 have h0:(List.replicate xs.length z,(0:Int))=(fun i:Nat=>(xs.take i++(List.replicate xs.length z).drop i,(i:Int))) 0:=by simp
 rw[h0]
 refine GP (fun i:Nat=>(xs.take i++(List.replicate xs.length z).drop i,(i:Int))) xs.length (fun i hi=>?_) ?_ (dK _ hN)
 ·have hl:(xs.take i++(List.replicate xs.length z).drop i).length=xs.length:=by
   rw[aq,aB,aS,List.length_replicate];omega
  rw[hstep _ i hi hl]
  congr 3
  have ht:(xs.take i).length=i:=by rw[aB];omega
  rw[List.set_append_right _ _ (by omega),ht,Nat.sub_self,List.drop_eq_getElem_cons (by rw[List.length_replicate];exact hi),List.set_cons_zero,List.take_succ_eq_append_getElem hi,ai]
  rfl
 ·have:=hend xs rfl
  rw[List.take_of_length_le (aC _),List.drop_of_length_le (by rw[List.length_replicate];exact aC _),List.append_nil]
  exact this
def Hk {α:Type} [Data α] (m:α->Int->Option Int):Prop:= ∀x l,Data.lim x->0<=l->l<=1048576-> ∃r,m x l=some r/\(r<0\/(0<=r/\r<=l/\Data.sm x))
def Eh {α:Type} [Data α] (m:α->Option α):Prop:= ∀x,Data.sm x->m x=some x
def Ei {α:Type} [Data α] [DecidableEq α] (m:α->α->Option Bool):Prop:= ∀x y,Data.sm x->Data.sm y->m x y=some (decide (x=y))
theorem ZT {α:Type} [Data α] {f:Int×Int->Option zp } (xs:List α)
  (hstep: ∀i (h:i<xs.length) l,0<=l->l<=1048576-> ∃r,f (l,(i:Int))=some (if r<0 then .ret (-1) else .nxt (r,((i+1:Nat):Int)))/\(r<0\/(0<=r/\r<=l/\Data.sm xs[i])))
  (hend: ∀l,f (l,(xs.length:Int))=some (.brk (l,(xs.length:Int)))): ∀(m i k:Nat) (l:Int),i+m=xs.length->m<k->0<=l->l<=1048576->
   az f k (l,(i:Int))=some (.ret (-1))\/ ∃r,az f k (l,(i:Int))=some (.brk (r,(xs.length:Int)))/\0<=r/\r<=l/\ ∀j (h:j<xs.length),i<=j->Data.sm xs[j]
 | 0,i,k,l,e,hk,h0,h1=>by
  obtain ⟨k,rfl⟩: ∃q,k=q+1:=⟨k - 1,by omega⟩
  obtain rfl:i=xs.length:=by omega
  exact .inr ⟨l,by rw[az,hend],h0,Int.le_refl _,fun j hj hi=>by omega⟩
 | m+1,i,k,l,e,hk,h0,h1=>by
  obtain ⟨k,rfl⟩: ∃q,k=q+1:=⟨k - 1,by omega⟩
  obtain ⟨r,e1,e2⟩:=hstep i (by omega) l h0 h1
  rw[az,e1]
  rcases e2 with e2 | ⟨e2,e3,e4⟩
  ·rw[if_pos e2];exact .inl rfl
  ·rw[if_neg (by omega)]
   rcases ZT xs hstep hend m (i+1) k r (by omega) (by omega) e2 (by omega) with h | ⟨q,g1,g2,g3,g4⟩
   ·exact .inl h
   ·refine .inr ⟨q,g1,g2,by omega,fun j hj hi=>?_⟩
    by_cases hji:j=i
    ·subst hji;exact e4
    ·exact g4 j hj (by omega)
theorem szL {α:Type} [Data α] {f:Int×Int->Option zp } (xs:List α) {l:Int} (hN:xs.length<=9223372036854775807)
  (hstep: ∀i (h:i<xs.length) l,0<=l->l<=1048576-> ∃r,f (l,(i:Int))=some (if r<0 then .ret (-1) else .nxt (r,((i+1:Nat):Int)))/\(r<0\/(0<=r/\r<=l/\Data.sm xs[i])))
  (hend: ∀l,f (l,(xs.length:Int))=some (.brk (l,(xs.length:Int)))) (h0:0<=l) (h1:l<=1048576) :
  ∃r,(if decide (IntKind.i64.wrap (l - (xs.length:Int))<0) then (some (-1)) else (aP (az f aW (IntKind.i64.wrap (l - (xs.length:Int)),0)) (fun r=>some r) (fun s4=>some s4.1)))=some r/\(r<0\/(0<=r/\r<=l/\Data.sm xs)):=by
 rw[fg (by omega) (by omega)]
 by_cases h:l - (xs.length:Int)<0
 ·exact ⟨-1,by rw[if_pos (decide_eq_true h)],.inl (by decide)⟩
 ·rw[if_neg (by simpa using h)]
  rcases ZT xs hstep hend xs.length 0 aW (l - xs.length) (by omega) (dK _ hN) (by omega) (by omega) with e | ⟨r,e,g1,g2,g3⟩
  ·exact ⟨-1,by rw[show ((0:Int))=((0:Nat):Int) from rfl,e];rfl,.inl (by decide)⟩
  ·refine ⟨r,by rw[show ((0:Int))=((0:Nat):Int) from rfl,e];rfl,.inr ⟨g1,by omega,by omega,fun x hx=>?_⟩⟩
   obtain ⟨j,hj,rfl⟩:=List.getElem_of_mem hx
   exact g3 j hj (Nat.zero_le _)
theorem szF {α:Type} [Data α] (xs:List α) {l:Int} (hN:xs.length<=9223372036854775807) (hf: ∀x:α,Data.sm x) (h0:0<=l) (h1:l<=1048576) :
  ∃r,(if decide (IntKind.i64.wrap (l - (xs.length:Int))<0) then (some (-1)) else (some (IntKind.i64.wrap (l - (xs.length:Int)))))=some r/\(r<0\/(0<=r/\r<=l/\Data.sm xs)):=by
 rw[fg (by omega) (by omega)]
 by_cases h:l - (xs.length:Int)<0
 ·exact ⟨-1,by rw[if_pos (decide_eq_true h)],.inl (by decide)⟩
 ·exact ⟨_,by rw[if_neg (by simpa using h)],.inr ⟨by omega,by omega,by omega,fun x _=>hf x⟩⟩
theorem Za {α:Type} [DecidableEq α] {f:Int->Option (Out Bool Int)} (xs ys:List α) (hl:xs.length=ys.length)
  (hstep: ∀i (h:i<xs.length) (h':i<ys.length),f (i:Int)=some (if xs[i] =ys[i] then .nxt ((i+1:Nat):Int) else .ret false)) (hend:f (xs.length:Int)=some (.brk (xs.length:Int))): ∀(m i k:Nat),i+m=xs.length->m<k->
   az f k (i:Int)=some (if xs.drop i=ys.drop i then .brk (xs.length:Int) else .ret false)
 | 0,i,k,e,hk=>by
  obtain ⟨k,rfl⟩: ∃q,k=q+1:=⟨k - 1,by omega⟩
  obtain rfl:i=xs.length:=by omega
  rw[az,hend,List.drop_of_length_le (aC _),List.drop_of_length_le (by omega),if_pos rfl]
 | m+1,i,k,e,hk=>by
  obtain ⟨k,rfl⟩: ∃q,k=q+1:=⟨k - 1,by omega⟩
  have hi:i<xs.length:=by omega
  have hi':i<ys.length:=by omega
  have d1:=List.drop_eq_getElem_cons hi
  have d2:=List.drop_eq_getElem_cons hi'
  rw[az,hstep i hi hi',d1,d2]
  by_cases h:xs[i] =ys[i]
  ·rw[if_pos h]
   simp only
   rw[Za xs ys hl hstep hend m (i+1) k (by omega) (by omega)]
   simp only[List.cons.injEq,h,true_and]
  ·rw[if_neg h]
   simp only[List.cons.injEq,h,false_and,if_false]
theorem eqL {α:Type} [DecidableEq α] {f:Int->Option (Out Bool Int)} (xs ys:List α) (hN:xs.length<=9223372036854775807)
  (hstep: ∀i (h:i<xs.length) (h':i<ys.length),f (i:Int)=some (if xs[i] =ys[i] then .nxt ((i+1:Nat):Int) else .ret false)) (hend:f (xs.length:Int)=some (.brk (xs.length:Int))) :
  (if (xs.length:Int) !=(ys.length:Int) then (some false) else (aP (az f aW 0) (fun r=>some r) (fun s4=>some true)))=some (decide (xs=ys)):=by
 by_cases hl:xs.length=ys.length
 ·rw[if_neg (by rw[hl];simp),show ((0:Int))=((0:Nat):Int) from rfl,Za xs ys hl hstep hend xs.length 0 aW (by omega) (dK _ hN)]
  by_cases h:xs=ys
  ·subst h;simp[aP]
  ·simp[aP,h]
 ·have:xs≠ys:=fun e=>hl (by rw[e])
  rw[if_pos (by simp;omega)];simp[this]
theorem fK {α:Type} {c d:Prop} [Decidable c] [Decidable d] {a b:α} (h:c↔d):(if c then some a else some b)=some (if d then a else b):=by
 by_cases k:c
 ·rw[if_pos k,if_pos (h.1 k)]
 ·rw[if_neg k,if_neg (fun e=>k (h.2 e))]
theorem qA {α:Type} {c d:Prop} [Decidable c] [Decidable d] {a b:α} (h:c↔ ¬d):(if c then some b else some a)=some (if d then a else b):=by
 by_cases k:d
 ·rw[if_neg (fun e=>h.1 e k),if_pos k]
 ·rw[if_pos (h.2 k),if_neg k]
theorem eqB {α:Type} [DecidableEq α] {f:Int->Option (Out Bool Int)} {K:Option Bool} (xs ys:List α) (hN:xs.length<=9223372036854775807) (hl:xs.length=ys.length)
  (hstep: ∀i (h:i<xs.length) (h':i<ys.length),f (i:Int)=some (if xs[i] =ys[i] then .nxt ((i+1:Nat):Int) else .ret false)) (hend:f (xs.length:Int)=some (.brk (xs.length:Int))) :
  aP (az f aW 0) (fun r=>some r) (fun s4=>K)=(if xs=ys then K else some false):=by
 rw[show ((0:Int))=((0:Nat):Int) from rfl,Za xs ys hl hstep hend xs.length 0 aW (by omega) (dK _ hN)]
 by_cases h:xs=ys
 ·subst h;simp[aP]
 ·simp[aP,h]
theorem XH {f:Int->Option (Out Int Int)} (xs ys:List Int)
  (hstep: ∀i (h:i<xs.length) (h':i<ys.length),f (i:Int)=some (if xs[i] < ys[i] then .ret (-1) else if xs[i] > ys[i] then .ret 1 else .nxt ((i+1:Nat):Int))) (hend: ∀i,xs.length<=i\/ys.length<=i->f (i:Int)=some (.brk (i:Int))): ∀(m i k:Nat),i+m=xs.length->m<k->
   (∃r,az f k (i:Int)=some (.ret r)/\r≠0/\xs≠ys)\/ ∃s,az f k (i:Int)=some (.brk s)/\(xs.length=ys.length->xs.drop i=ys.drop i)
 | 0,i,k,e,hk=>by
  obtain ⟨k,rfl⟩: ∃q,k=q+1:=⟨k - 1,by omega⟩
  exact .inr ⟨_,by rw[az,hend i (.inl (by omega))],fun h=>by rw[List.drop_of_length_le (by omega),List.drop_of_length_le (by omega)]⟩
 | m+1,i,k,e,hk=>by
  obtain ⟨k,rfl⟩: ∃q,k=q+1:=⟨k - 1,by omega⟩
  have hi:i<xs.length:=by omega
  by_cases hi':i<ys.length
  ·have hne: ∀h:xs[i] ≠ys[i],xs≠ys:=fun h e=>h (by subst e;rfl)
   rw[az,hstep i hi hi']
   by_cases h1:xs[i] < ys[i]
   ·rw[if_pos h1];exact .inl ⟨-1,rfl,by decide,hne (by omega)⟩
   ·rw[if_neg h1]
    by_cases h2:xs[i] > ys[i]
    ·rw[if_pos h2];exact .inl ⟨1,rfl,by decide,hne (by omega)⟩
    ·rw[if_neg h2]
     rcases XH xs ys hstep hend m (i+1) k (by omega) (by omega) with h | ⟨s,g1,g2⟩
     ·exact .inl h
     ·refine .inr ⟨s,g1,fun hl=>?_⟩
      have h3:xs[i] =ys[i]:=by omega
      rw[List.drop_eq_getElem_cons hi,List.drop_eq_getElem_cons hi',g2 hl,h3]
  ·exact .inr ⟨_,by rw[az,hend i (.inr (by omega))],fun h=>by omega⟩
instance:LawfulBEq ByteArray where
 eq_of_beq {a b} h:=ByteArray.ext (eq_of_beq (show (a.data==b.data)=true from h))
 rfl {a}:=beq_self_eq_true a.data
theorem ZU {α β γ δ:Type} {a b:α×β×γ×δ} :(a.1=b.1/\a.2.1=b.2.1/\a.2.2.1=b.2.2.1/\a.2.2.2=b.2.2.2)↔a=b:=by rw[Prod.ext_iff,Prod.ext_iff,Prod.ext_iff]
theorem dM {α β:Type} (p:α×β):(p.1,p.2)=p:=rfl
theorem aJ {α:Type} [Data α] {xs:List α} (h:Data.sm xs):xs.length<=1048576/\ ∀x,x∈xs->Data.sm x:=h
theorem eY {α:Type} [Data α] {xs:List α} (h:Data.lim xs):xs.length<=9223372036854775807/\ ∀x,x∈xs->Data.lim x:=h
end D
set_option synthInstance.maxSize 20000
set_option synthInstance.maxHeartbeats 2000000
namespace D
open Go.RowKit
theorem Kf:Hk sS:=fun xs l hl h0 h1=>szF xs (eY hl).1 (fun _=>trivial) h0 h1
theorem Ow:Hk ur:=fun xs l hl h0 h1=>szF xs (eY hl).1 (fun _=>⟨trivial,trivial,trivial,trivial⟩) h0 h1
theorem Ox:Hk qc:=by
 intro x l hl h0 h1
 unfold qc
 try simp only[dM]
 obtain ⟨r1,e1,k1⟩:=Kf x.1 l hl.1 (by omega) (by omega)
 rw[e1];simp only[aa]
 rcases k1 with k1 | ⟨k1,j1,s1⟩
 ·exact ⟨-1,by rw[if_pos (decide_eq_true k1)],.inl (by decide)⟩
 rw[if_neg (by simpa using k1)]
 obtain ⟨r2,e2,k2⟩:=Ow x.2 r1 hl.2 (by omega) (by omega)
 rw[e2];simp only[aa]
 rcases k2 with k2 | ⟨k2,j2,s2⟩
 ·exact ⟨-1,by rw[if_pos (decide_eq_true k2)],.inl (by decide)⟩
 rw[if_neg (by simpa using k2)]
 exact ⟨_,rfl,.inr ⟨by omega,by omega,⟨s1,s2⟩⟩⟩
theorem LB:Hk rJ:=fun xs l hl h0 h1=>szL (f:=kp xs) xs (eY hl).1 (fun i h l k0 k1=>by
 obtain ⟨r,e,hr⟩:=Ox xs[i] l ((eY hl).2 _ (List.getElem_mem h)) k0 k1
 refine ⟨r,?_,hr⟩
 simp only[kp,bM h,if_true,aE h,aa,dM,e,af (show i<9223372036854775807 by have:=(eY hl).1;omega)]
 exact fK (by simp)) (fun l=>by simp only[kp,bq];rfl) h0 h1
theorem II:Hk mK:=by
 intro x l hl h0 h1
 unfold mK
 try simp only[dM]
 obtain ⟨r1,e1,k1⟩:=LB x.2 l hl.2 (by omega) (by omega)
 rw[e1];simp only[aa]
 rcases k1 with k1 | ⟨k1,j1,s1⟩
 ·exact ⟨-1,by rw[if_pos (decide_eq_true k1)],.inl (by decide)⟩
 rw[if_neg (by simpa using k1)]
 exact ⟨_,rfl,.inr ⟨by omega,by omega,⟨trivial,s1⟩⟩⟩
theorem Oy:Hk uu:=fun xs l hl h0 h1=>szF xs (eY hl).1 (fun _=>trivial) h0 h1
theorem Oz:Hk uv:=fun xs l hl h0 h1=>szL (f:=lC xs) xs (eY hl).1 (fun i h l k0 k1=>by
 obtain ⟨r,e,hr⟩:=Kf xs[i] l ((eY hl).2 _ (List.getElem_mem h)) k0 k1
 refine ⟨r,?_,hr⟩
 simp only[lC,bM h,if_true,aE h,aa,dM,e,af (show i<9223372036854775807 by have:=(eY hl).1;omega)]
 exact fK (by simp)) (fun l=>by simp only[lC,bq];rfl) h0 h1
theorem Ej:Hk kq:=by
 intro x l hl h0 h1
 unfold kq
 try simp only[dM]
 obtain ⟨r1,e1,k1⟩:=Oy x.2.1 l hl.2.1 (by omega) (by omega)
 rw[e1];simp only[aa]
 rcases k1 with k1 | ⟨k1,j1,s1⟩
 ·exact ⟨-1,by rw[if_pos (decide_eq_true k1)],.inl (by decide)⟩
 rw[if_neg (by simpa using k1)]
 obtain ⟨r2,e2,k2⟩:=Oz x.2.2 r1 hl.2.2 (by omega) (by omega)
 rw[e2];simp only[aa]
 rcases k2 with k2 | ⟨k2,j2,s2⟩
 ·exact ⟨-1,by rw[if_pos (decide_eq_true k2)],.inl (by decide)⟩
 rw[if_neg (by simpa using k2)]
 exact ⟨_,rfl,.inr ⟨by omega,by omega,⟨trivial,s1,s2⟩⟩⟩
theorem B3:Hk mu:=fun xs l hl h0 h1=>szL (f:=fU xs) xs (eY hl).1 (fun i h l k0 k1=>by
 obtain ⟨r,e,hr⟩:=Ej xs[i] l ((eY hl).2 _ (List.getElem_mem h)) k0 k1
 refine ⟨r,?_,hr⟩
 simp only[fU,bM h,if_true,aE h,aa,dM,e,af (show i<9223372036854775807 by have:=(eY hl).1;omega)]
 exact fK (by simp)) (fun l=>by simp only[fU,bq];rfl) h0 h1
theorem LC:Hk rK:=fun xs l hl h0 h1=>szF xs (eY hl).1 (fun _=>⟨trivial,trivial,trivial,trivial⟩) h0 h1
theorem Kg:Hk pg:=by
 intro x l hl h0 h1
 unfold pg
 try simp only[dM]
 obtain ⟨r1,e1,k1⟩:=LC x l hl (by omega) (by omega)
 rw[e1];simp only[aa]
 rcases k1 with k1 | ⟨k1,j1,s1⟩
 ·exact ⟨-1,by rw[if_pos (decide_eq_true k1)],.inl (by decide)⟩
 rw[if_neg (by simpa using k1)]
 exact ⟨_,rfl,.inr ⟨by omega,by omega,s1⟩⟩
theorem B4:Hk jn:=by
 intro x l hl h0 h1
 unfold jn
 try simp only[dM]
 obtain ⟨r1,e1,k1⟩:=Kg x.2.1 l hl.2.1 (by omega) (by omega)
 rw[e1];simp only[aa]
 rcases k1 with k1 | ⟨k1,j1,s1⟩
 ·exact ⟨-1,by rw[if_pos (decide_eq_true k1)],.inl (by decide)⟩
 rw[if_neg (by simpa using k1)]
 exact ⟨_,rfl,.inr ⟨by omega,by omega,⟨trivial,s1,trivial⟩⟩⟩
theorem Bf:Hk k7:=fun xs l hl h0 h1=>szL (f:=fl xs) xs (eY hl).1 (fun i h l k0 k1=>by
 obtain ⟨r,e,hr⟩:=B4 xs[i] l ((eY hl).2 _ (List.getElem_mem h)) k0 k1
 refine ⟨r,?_,hr⟩
 simp only[fl,bM h,if_true,aE h,aa,dM,e,af (show i<9223372036854775807 by have:=(eY hl).1;omega)]
 exact fK (by simp)) (fun l=>by simp only[fl,bq];rfl) h0 h1
theorem GQ:Hk lD:=by
 intro x l hl h0 h1
 unfold lD
 try simp only[dM]
 obtain ⟨r1,e1,k1⟩:=B3 x.1 l hl.1 (by omega) (by omega)
 rw[e1];simp only[aa]
 rcases k1 with k1 | ⟨k1,j1,s1⟩
 ·exact ⟨-1,by rw[if_pos (decide_eq_true k1)],.inl (by decide)⟩
 rw[if_neg (by simpa using k1)]
 obtain ⟨r2,e2,k2⟩:=Bf x.2 r1 hl.2 (by omega) (by omega)
 rw[e2];simp only[aa]
 rcases k2 with k2 | ⟨k2,j2,s2⟩
 ·exact ⟨-1,by rw[if_pos (decide_eq_true k2)],.inl (by decide)⟩
 rw[if_neg (by simpa using k2)]
 exact ⟨_,rfl,.inr ⟨by omega,by omega,⟨s1,s2⟩⟩⟩
theorem Bg:Hk k8:=fun xs l hl h0 h1=>szF xs (eY hl).1 (fun _=>⟨trivial,trivial,trivial⟩) h0 h1
theorem LD:Hk om:=by
 intro x l hl h0 h1
 unfold om
 try simp only[dM]
 obtain ⟨r1,e1,k1⟩:=II x.1 l hl.1 (by omega) (by omega)
 rw[e1];simp only[aa]
 rcases k1 with k1 | ⟨k1,j1,s1⟩
 ·exact ⟨-1,by rw[if_pos (decide_eq_true k1)],.inl (by decide)⟩
 rw[if_neg (by simpa using k1)]
 obtain ⟨r2,e2,k2⟩:=GQ x.2.1 r1 hl.2.1 (by omega) (by omega)
 rw[e2];simp only[aa]
 rcases k2 with k2 | ⟨k2,j2,s2⟩
 ·exact ⟨-1,by rw[if_pos (decide_eq_true k2)],.inl (by decide)⟩
 rw[if_neg (by simpa using k2)]
 obtain ⟨r3,e3,k3⟩:=Bg x.2.2.1 r2 hl.2.2.1 (by omega) (by omega)
 rw[e3];simp only[aa]
 rcases k3 with k3 | ⟨k3,j3,s3⟩
 ·exact ⟨-1,by rw[if_pos (decide_eq_true k3)],.inl (by decide)⟩
 rw[if_neg (by simpa using k3)]
 rw[fg (by have:x.2.2.2.size<=9223372036854775807:=hl.2.2.2;omega) (by omega)]
 by_cases k4:r3 - (x.2.2.2.size:Int)<0
 ·exact ⟨-1,by rw[if_pos (decide_eq_true k4)],.inl (by decide)⟩
 rw[if_neg (by simpa using k4)]
 have s4:x.2.2.2.size<=1048576:=by omega
 exact ⟨_,rfl,.inr ⟨by omega,by omega,⟨s1,s2,s3,s4⟩⟩⟩
theorem Kh:Eh ph:=by
 intro xs hx
 have hn:=(aJ hx).1
 unfold ph
 rw[wi (by omega)];simp only[aa]
 rw[toL (f:=mL xs) xs (by omega) (fun ys i h hy=>by simp only[mL,bM h,if_true,aE h,aE (show i<ys.length by omega),aa,dM,af (show i<9223372036854775807 by omega),Int.toNat_natCast]) (fun ys hy=>by simp only[mL,bq];rfl)]
 rfl
theorem RP:Eh sU:=by
 intro x hx
 unfold sU
 simp only[dM,aa]
theorem OA:Eh qd:=by
 intro xs hx
 have hn:=(aJ hx).1
 unfold qd
 rw[wi (by omega)];simp only[aa]
 rw[toL (f:=lE xs) xs (by omega) (fun ys i h hy=>by simp only[lE,bM h,if_true,aE h,aE (show i<ys.length by omega),aa,dM,RP xs[i] ((aJ hx).2 _ (List.getElem_mem h)),af (show i<9223372036854775807 by omega),Int.toNat_natCast]) (fun ys hy=>by simp only[lE,bq];rfl)]
 rfl
theorem OB:Eh qe:=by
 intro x hx
 unfold qe
 simp only[dM,aa,Kh x.1 hx.1,OA x.2 hx.2]
theorem LF:Eh oo:=by
 intro xs hx
 have hn:=(aJ hx).1
 unfold oo
 rw[wi (by omega)];simp only[aa]
 rw[toL (f:=kt xs) xs (by omega) (fun ys i h hy=>by simp only[kt,bM h,if_true,aE h,aE (show i<ys.length by omega),aa,dM,OB xs[i] ((aJ hx).2 _ (List.getElem_mem h)),af (show i<9223372036854775807 by omega),Int.toNat_natCast]) (fun ys hy=>by simp only[kt,bq];rfl)]
 rfl
theorem IJ:Eh mM:=by
 intro x hx
 unfold mM
 simp only[dM,aa,LF x.2 hx.2]
theorem OC:Eh qf:=by
 intro xs hx
 have hn:=(aJ hx).1
 unfold qf
 rw[wi (by omega)];simp only[aa]
 rw[toL (f:=lF xs) xs (by omega) (fun ys i h hy=>by simp only[lF,bM h,if_true,aE h,aE (show i<ys.length by omega),aa,dM,af (show i<9223372036854775807 by omega),Int.toNat_natCast]) (fun ys hy=>by simp only[lF,bq];rfl)]
 rfl
theorem OD:Eh qg:=by
 intro xs hx
 have hn:=(aJ hx).1
 unfold qg
 rw[wi (by omega)];simp only[aa]
 rw[toL (f:=lG xs) xs (by omega) (fun ys i h hy=>by simp only[lG,bM h,if_true,aE h,aE (show i<ys.length by omega),aa,dM,Kh xs[i] ((aJ hx).2 _ (List.getElem_mem h)),af (show i<9223372036854775807 by omega),Int.toNat_natCast]) (fun ys hy=>by simp only[lG,bq];rfl)]
 rfl
theorem Ek:Eh ku:=by
 intro x hx
 unfold ku
 simp only[dM,aa,OC x.2.1 hx.2.1,OD x.2.2 hx.2.2]
theorem B5:Eh jo:=by
 intro xs hx
 have hn:=(aJ hx).1
 unfold jo
 rw[wi (by omega)];simp only[aa]
 rw[toL (f:=fV xs) xs (by omega) (fun ys i h hy=>by simp only[fV,bM h,if_true,aE h,aE (show i<ys.length by omega),aa,dM,Ek xs[i] ((aJ hx).2 _ (List.getElem_mem h)),af (show i<9223372036854775807 by omega),Int.toNat_natCast]) (fun ys hy=>by simp only[fV,bq];rfl)]
 rfl
theorem OE:Eh qi:=by
 intro x hx
 unfold qi
 simp only[dM,aa]
theorem LG:Eh oq:=by
 intro xs hx
 have hn:=(aJ hx).1
 unfold oq
 rw[wi (by omega)];simp only[aa]
 rw[toL (f:=ky xs) xs (by omega) (fun ys i h hy=>by simp only[ky,bM h,if_true,aE h,aE (show i<ys.length by omega),aa,dM,OE xs[i] ((aJ hx).2 _ (List.getElem_mem h)),af (show i<9223372036854775807 by omega),Int.toNat_natCast]) (fun ys hy=>by simp only[ky,bq];rfl)]
 rfl
theorem Ki:Eh jT:=by
 intro x hx
 unfold jT
 simp only[dM,aa,LG x hx]
theorem B6:Eh jq:=by
 intro x hx
 unfold jq
 simp only[dM,aa,Ki x.2.1 hx.2.1]
theorem Bh:Eh iB:=by
 intro xs hx
 have hn:=(aJ hx).1
 unfold iB
 rw[wi (by omega)];simp only[aa]
 rw[toL (f:=fm xs) xs (by omega) (fun ys i h hy=>by simp only[fm,bM h,if_true,aE h,aE (show i<ys.length by omega),aa,dM,B6 xs[i] ((aJ hx).2 _ (List.getElem_mem h)),af (show i<9223372036854775807 by omega),Int.toNat_natCast]) (fun ys hy=>by simp only[fm,bq];rfl)]
 rfl
theorem GR:Eh lH:=by
 intro x hx
 unfold lH
 simp only[dM,aa,B5 x.1 hx.1,Bh x.2 hx.2]
theorem B7:Eh jr:=by
 intro x hx
 unfold jr
 simp only[dM,aa]
theorem Bi:Eh iC:=by
 intro xs hx
 have hn:=(aJ hx).1
 unfold iC
 rw[wi (by omega)];simp only[aa]
 rw[toL (f:=fo xs) xs (by omega) (fun ys i h hy=>by simp only[fo,bM h,if_true,aE h,aE (show i<ys.length by omega),aa,dM,B7 xs[i] ((aJ hx).2 _ (List.getElem_mem h)),af (show i<9223372036854775807 by omega),Int.toNat_natCast]) (fun ys hy=>by simp only[fo,bq];rfl)]
 rfl
theorem LH:Eh gW:=by
 intro x hx
 unfold gW
 simp only[dM,aa,IJ x.1 hx.1,GR x.2.1 hx.2.1,Bi x.2.2.1 hx.2.2.1]
theorem Kj:Ei sV:=fun xs ys hx hy=>eqL (f:=mN xs ys) xs ys (by have:=(aJ hx).1;omega) (fun i h h'=>by
 simp only[mN,bM h,if_true,aE h,aE h',aa,dM,af (show i<9223372036854775807 by have:=(aJ hx).1;omega)]
 first | exact fK (by simp) | exact qA (by simp) | exact fK (by simp[Prod.ext_iff])) (by simp only[mN,bq];rfl)
theorem RQ:Ei sW:=by
 intro x y hx hy
 unfold sW
 try simp only[dM,aa]
 repeat' split
 all_goals simp_all[Prod.ext_iff]
theorem OF:Ei uw:=fun xs ys hx hy=>eqL (f:=lI xs ys) xs ys (by have:=(aJ hx).1;omega) (fun i h h'=>by
 simp only[lI,bM h,if_true,aE h,aE h',aa,dM,RQ xs[i] ys[i] ((aJ hx).2 _ (List.getElem_mem h)) ((aJ hy).2 _ (List.getElem_mem h')),af (show i<9223372036854775807 by have:=(aJ hx).1;omega)]
 first | exact fK (by simp) | exact qA (by simp) | exact fK (by simp[Prod.ext_iff])) (by simp only[lI,bq];rfl)
theorem OG:Ei qj:=by
 intro x y hx hy
 unfold qj
 try simp only[dM,aa,Kj x.1 y.1 hx.1 hy.1,OF x.2 y.2 hx.2 hy.2]
 repeat' split
 all_goals simp_all[Prod.ext_iff]
theorem LI:Ei rL:=fun xs ys hx hy=>eqL (f:=kz xs ys) xs ys (by have:=(aJ hx).1;omega) (fun i h h'=>by
 simp only[kz,bM h,if_true,aE h,aE h',aa,dM,OG xs[i] ys[i] ((aJ hx).2 _ (List.getElem_mem h)) ((aJ hy).2 _ (List.getElem_mem h')),af (show i<9223372036854775807 by have:=(aJ hx).1;omega)]
 first | exact fK (by simp) | exact qA (by simp) | exact fK (by simp[Prod.ext_iff])) (by simp only[kz,bq];rfl)
theorem IK:Ei mO:=by
 intro x y hx hy
 unfold mO
 try simp only[dM,aa,LI x.2 y.2 hx.2 hy.2]
 repeat' split
 all_goals simp_all[Prod.ext_iff]
theorem OH:Ei uy:=fun xs ys hx hy=>eqL (f:=lJ xs ys) xs ys (by have:=(aJ hx).1;omega) (fun i h h'=>by
 simp only[lJ,bM h,if_true,aE h,aE h',aa,dM,af (show i<9223372036854775807 by have:=(aJ hx).1;omega)]
 first | exact fK (by simp) | exact qA (by simp) | exact fK (by simp[Prod.ext_iff])) (by simp only[lJ,bq];rfl)
theorem OI:Ei uz:=fun xs ys hx hy=>eqL (f:=lK xs ys) xs ys (by have:=(aJ hx).1;omega) (fun i h h'=>by
 simp only[lK,bM h,if_true,aE h,aE h',aa,dM,Kj xs[i] ys[i] ((aJ hx).2 _ (List.getElem_mem h)) ((aJ hy).2 _ (List.getElem_mem h')),af (show i<9223372036854775807 by have:=(aJ hx).1;omega)]
 first | exact fK (by simp) | exact qA (by simp) | exact fK (by simp[Prod.ext_iff])) (by simp only[lK,bq];rfl)
theorem El:Ei kA:=by
 intro x y hx hy
 unfold kA
 try simp only[dM,aa,OH x.2.1 y.2.1 hx.2.1 hy.2.1,OI x.2.2 y.2.2 hx.2.2 hy.2.2]
 repeat' split
 all_goals simp_all[Prod.ext_iff]
theorem B8:Ei mw:=fun xs ys hx hy=>eqL (f:=fW xs ys) xs ys (by have:=(aJ hx).1;omega) (fun i h h'=>by
 simp only[fW,bM h,if_true,aE h,aE h',aa,dM,El xs[i] ys[i] ((aJ hx).2 _ (List.getElem_mem h)) ((aJ hy).2 _ (List.getElem_mem h')),af (show i<9223372036854775807 by have:=(aJ hx).1;omega)]
 first | exact fK (by simp) | exact qA (by simp) | exact fK (by simp[Prod.ext_iff])) (by simp only[fW,bq];rfl)
theorem OJ:Ei qk:=by
 intro x y hx hy
 unfold qk
 try simp only[dM,aa]
 repeat' split
 all_goals simp_all[Prod.ext_iff]
theorem LJ:Ei rM:=fun xs ys hx hy=>eqL (f:=kB xs ys) xs ys (by have:=(aJ hx).1;omega) (fun i h h'=>by
 simp only[kB,bM h,if_true,aE h,aE h',aa,dM,OJ xs[i] ys[i] ((aJ hx).2 _ (List.getElem_mem h)) ((aJ hy).2 _ (List.getElem_mem h')),af (show i<9223372036854775807 by have:=(aJ hx).1;omega)]
 first | exact fK (by simp) | exact qA (by simp) | exact fK (by simp[Prod.ext_iff])) (by simp only[kB,bq];rfl)
theorem Kk:Ei pj:=by
 intro x y hx hy
 unfold pj
 try simp only[dM,aa,LJ x y hx hy]
 repeat' split
 all_goals simp_all[Prod.ext_iff]
theorem B9:Ei jt:=by
 intro x y hx hy
 unfold jt
 try simp only[dM,aa,Kk x.2.1 y.2.1 hx.2.1 hy.2.1]
 repeat' split
 all_goals simp_all[Prod.ext_iff]
theorem Bj:Ei k9:=fun xs ys hx hy=>eqL (f:=fp xs ys) xs ys (by have:=(aJ hx).1;omega) (fun i h h'=>by
 simp only[fp,bM h,if_true,aE h,aE h',aa,dM,B9 xs[i] ys[i] ((aJ hx).2 _ (List.getElem_mem h)) ((aJ hy).2 _ (List.getElem_mem h')),af (show i<9223372036854775807 by have:=(aJ hx).1;omega)]
 first | exact fK (by simp) | exact qA (by simp) | exact fK (by simp[Prod.ext_iff])) (by simp only[fp,bq];rfl)
theorem GS:Ei lL:=by
 intro x y hx hy
 unfold lL
 try simp only[dM,aa,B8 x.1 y.1 hx.1 hy.1,Bj x.2 y.2 hx.2 hy.2]
 repeat' split
 all_goals simp_all[Prod.ext_iff]
theorem Ca:Ei ju:=by
 intro x y hx hy
 unfold ju
 try simp only[dM,aa]
 repeat' split
 all_goals simp_all[Prod.ext_iff]
theorem Bk:Ei ld:=fun xs ys hx hy=>eqL (f:=fq xs ys) xs ys (by have:=(aJ hx).1;omega) (fun i h h'=>by
 simp only[fq,bM h,if_true,aE h,aE h',aa,dM,Ca xs[i] ys[i] ((aJ hx).2 _ (List.getElem_mem h)) ((aJ hy).2 _ (List.getElem_mem h')),af (show i<9223372036854775807 by have:=(aJ hx).1;omega)]
 first | exact fK (by simp) | exact qA (by simp) | exact fK (by simp[Prod.ext_iff])) (by simp only[fq,bq];rfl)
theorem C2:Ei gX:=by
 intro x y hx hy
 unfold gX
 try simp only[dM,aa,IK x.1 y.1 hx.1 hy.1,GS x.2.1 y.2.1 hx.2.1 hy.2.1,Bk x.2.2.1 y.2.2.1 hx.2.2.1 hy.2.2.1]
 repeat' split
 all_goals simp_all[Prod.ext_iff]
end D
namespace D
open Go.RowKit
theorem cV {R S:Type} {f:S->Option (Out R S)} (Inv:Nat->S->Prop) (Q:Out R S->Prop) (N:Nat)
  (h: ∀i s,i<=N->Inv i s->(i<N/\ ∃s',f s=some (.nxt s')/\Inv (i+1) s')\/ ∃o,f s=some o/\(∀s',o≠ .nxt s')/\Q o) {s:S} (h0:Inv 0 s) (hN:N<aW): ∃o,az f aW s=some o/\Q o:=by
 have key: ∀(k i:Nat) (s:S),i<=N->N<i+k->Inv i s-> ∃o,az f k s=some o/\Q o:=by
  intro k
  induction k with
  | zero=>intro i s h1 h2;omega
  | succ k ih =>
   intro i s h1 h2 hI
   rcases h i s h1 hI with ⟨hi,s',e,hI'⟩ | ⟨o,e,hn,hq⟩
   ·obtain ⟨o,e',hq⟩:=ih (i+1) s' (by omega) (by omega) hI'
    exact ⟨o,by rw[az,e];exact e',hq⟩
   ·refine ⟨o,?_,hq⟩
    rw[az,e]
    cases o with
    | nxt s'=>exact absurd rfl (hn s')
    | brk s'=>rfl
    | ret r=>rfl
 exact key aW 0 s (by omega) (by omega) h0
theorem nY {R S:Type} {f:S->Option (Out R S)} (Inv:Nat->S->Prop) (N:Nat) (h: ∀i s,i<N->Inv i s-> ∃s',f s=some (.nxt s')/\Inv (i+1) s') (he: ∀s,Inv N s->f s=some (.brk s)) {s:S} (h0:Inv 0 s) (hN:N<aW): ∃s',az f aW s=some (.brk s')/\Inv N s':=by
 obtain ⟨o,e,s',rfl,h⟩:=cV (f:=f) Inv (fun o=> ∃s',o= .brk s'/\Inv N s') N (fun i s hi hI=>by
  by_cases h1:i<N
  ·exact .inl ⟨h1,h i s h1 hI⟩
  ·obtain rfl:i=N:=by omega
   exact .inr ⟨_,he s hI,(fun s' e=>by cases e),s,rfl,hI⟩) h0 hN
 exact ⟨s',e,h⟩
theorem bh {R S:Type} {f:S->Option (Out R S)} (st:Nat->S) (N:Nat) (h: ∀i,i<N->f (st i)=some (.nxt (st (i+1)))) (he:f (st N)=some (.brk (st N))) (hN:N<aW):az f aW (st 0)=some (.brk (st N)):=GP st N h he hN
theorem ub {k:Nat} (h:k<=9223372036854775807):k<aW:=dK k h
theorem pS {i:Nat} (h:i<=9223372036854775807):IntKind.i64.wrap ((i:Int) - 1)=(i:Int) - 1:=fg (by omega) (by omega)
theorem aL {α:Type} {b:Nat} {xs ys:List α} (h:(xs.length+ys.length)*b<=140737488355328):b9 b xs ys=some (xs++ys):=by unfold b9;rw[if_pos h]
theorem cJ {R S T:Type} {x:Option (Out R S)} {r:R} {kr:R->Option T} {k:S->Option T} (h:x=some (.ret r)):aP x kr k=kr r:=by rw[h];rfl
theorem ax {R S T:Type} {x:Option (Out R S)} {s:S} {kr:R->Option T} {k:S->Option T} (h:x=some (.brk s)):aP x kr k=k s:=by rw[h];rfl
def nth {α:Type} [Inhabited α] (xs:List α) (i:Int):α:=xs.getD i.toNat default
section
variable {α:Type} [Inhabited α] {xs ys:List α}
theorem aG {i:Int} (h0:0<=i) (h1:i<xs.length):aQ xs i=some (nth xs i):=by
 unfold aQ nth
 rw[if_pos h0]
 have:i.toNat<xs.length:=by omega
 simp[List.getD_eq_getElem?_getD,this]
theorem bX {i:Nat} (h:i<xs.length):nth xs (i:Int)=xs[i]:=by simp[nth,List.getD_eq_getElem?_getD,h]
theorem cv {i:Int} (h0:0<=i) (h1:i<xs.length):nth xs i∈xs:=by
 have:i.toNat<xs.length:=by omega
 have e:nth xs i=xs[i.toNat]:=by simp[nth,List.getD_eq_getElem?_getD,this]
 rw[e];exact List.getElem_mem this
theorem iu {i:Int} (h0:0<=i) (h1:i<xs.length):nth (xs++ys) i=nth xs i:=by
 have:i.toNat<xs.length:=by omega
 simp[nth,List.getD_eq_getElem?_getD,List.getElem?_append_left this]
theorem IL {x:α} (h:x∈xs): ∃i:Nat,i<xs.length/\nth xs (i:Int)=x:=by
 obtain ⟨i,hi,rfl⟩:=List.getElem_of_mem h
 exact ⟨i,hi,bX hi⟩
theorem GT {i:Int} {x:α} (h0:0<=i) (h1:i<xs.length):nth (xs.set i.toNat x) i=x:=by
 have:i.toNat<xs.length:=by omega
 simp[nth,List.getD_eq_getElem?_getD,this]
theorem VV (h:xs.length=ys.length) (k: ∀i:Nat,i<xs.length->nth xs (i:Int)=nth ys (i:Int)):xs=ys:=by
 refine List.ext_getElem h fun i h1 h2=>?_
 have:=k i h1
 rwa [bX h1,bX h2] at this
end
section
variable {κ:Type} [DecidableEq κ]
def nbL (l:List κ):Option κ->List κ
 | none=>l
 | some x=>if x∈l then l else l++ [x]
def nbI (l:List κ):Option κ->Int
 | none=> -1
 | some x=>(l.idxOf x:Int)
def nbS (l:List κ) (os:List (Option κ)):List κ:=os.foldl nbL l
def nbR (l:List κ):List (Option κ)->List Int
 | [] =>[]
 | o::os=>nbI l o::nbR (nbL l o) os
theorem wj (l:List κ) (os:List (Option κ)) (o:Option κ):nbS l (os++ [o])=nbL (nbS l os) o:=by simp[nbS]
theorem tf: ∀(l:List κ) (os:List (Option κ)) (o:Option κ),nbR l (os++ [o])=nbR l os++ [nbI (nbS l os) o]
 | l,[],o=>rfl
 | l,p::os,o=>by
  show nbI l p::nbR (nbL l p) (os++ [o])=nbI l p::nbR (nbL l p) os++ [nbI (nbS (nbL l p) os) o]
  rw[tf (nbL l p) os o];rfl
theorem eK: ∀(l:List κ) (os:List (Option κ)),(nbR l os).length=os.length
 | l,[] =>rfl
 | l,o::os=>by show (nbR (nbL l o) os).length+1=_;rw[eK];rfl
theorem LK (l : List κ) (o : Option κ) : l <+: nbL l o := by
  cases o with
  | none => exact List.prefix_refl l
  | some x => unfold nbL; simp only; split
              · exact List.prefix_refl l
              · exact List.prefix_append l [x]
theorem lx: ∀(l:List κ) (os:List (Option κ)),l <+:nbS l os
 | l,[] =>List.prefix_refl l
 | l,o::os=>(LK l o).trans (lx (nbL l o) os)
theorem OK {l : List κ} {o : Option κ} (h : l.Nodup) : (nbL l o).Nodup := by
  cases o with
  | none => exact h
  | some x => unfold nbL; simp only; split
              · exact h
              · rename_i hx; exact List.nodup_append.2 ⟨h, by simp, by rintro a ha b hb rfl; simp at hb; exact hx (hb ▸ ha)⟩
theorem sB: ∀ {l:List κ} {os:List (Option κ)},l.Nodup->(nbS l os).Nodup
 | l,[],h=>h
 | l,o::os,h=>sB (l:=nbL l o) (os:=os) (OK h)
theorem OL {l : List κ} {o : Option κ} {x : κ} : x ∈ nbL l o ↔ x ∈ l \/ o = some x := by
  cases o with
  | none => simp [nbL]
  | some y => unfold nbL; simp only; split
              · rename_i h; constructor
                · exact .inl
                · rintro (h' | h')
                  · exact h'
                  · simp at h'; exact h' ▸ h
              · simp; exact or_congr Iff.rfl eq_comm
theorem xx: ∀ {l:List κ} {os:List (Option κ)} {x:κ},x∈nbS l os↔x∈l\/some x∈os
 | l,[],x=>by simp[nbS]
 | l,o::os,x=>by
  show x∈nbS (nbL l o) os↔_
  rw[xx,OL,List.mem_cons,or_assoc]
  exact or_congr Iff.rfl (or_congr eq_comm Iff.rfl)
theorem mD {l:List κ} {x:κ} (h:x∈l):nbL l (some x)=l:=by simp[nbL,h]
theorem lz {l:List κ} {x:κ} (h:x∉l):nbL l (some x)=l++ [x]:=by simp[nbL,h]
theorem pT {l:List κ} {x:κ} (h:x∉l):l.idxOf x=l.length:=List.idxOf_eq_length h
def bfS (nx:κ->List (Option κ)) (first:κ):Nat->List κ
 | 0=>[first]
 | i+1=>match (bfS nx first i)[i]? with
  | some x=>nbS (bfS nx first i) (nx x)
  | none=>bfS nx first i
def bfR (nx:κ->List (Option κ)) (first:κ):Nat->List (List Int)
 | 0=>[]
 | i+1=>bfR nx first i++(match (bfS nx first i)[i]? with
  | some x=>[nbR (bfS nx first i) (nx x)]
  | none=>[])
variable {nx:κ->List (Option κ)} {first:κ}
theorem Em {i:Nat} (h:i<(bfS nx first i).length):bfS nx first (i+1)=nbS (bfS nx first i) (nx ((bfS nx first i)[i])):=by
 rw[bfS,List.getElem?_eq_getElem h]
theorem wk {i:Nat} (h:i<(bfS nx first i).length):bfR nx first (i+1)=bfR nx first i++ [nbR (bfS nx first i) (nx ((bfS nx first i)[i]))]:=by
 rw[bfR,List.getElem?_eq_getElem h]
theorem bQ (i:Nat):bfS nx first i <+:bfS nx first (i+1):=by
 rw[bfS]
 split
 ·exact lx _ _
 ·exact List.prefix_refl _
theorem xy {i j:Nat} (h:i<=j):bfS nx first i <+:bfS nx first j:=by
 induction h with
 | refl=>exact List.prefix_refl _
 | step _ ih=>exact ih.trans (bQ _)
theorem nZ: ∀i,(bfS nx first i).Nodup
 | 0=>by simp[bfS]
 | i+1=>by
  rw[bfS]
  split
  ·exact sB (nZ i)
  ·exact nZ i
theorem kR {G:κ->Prop} (h0:G first) (h: ∀x,G x-> ∀y,some y∈nx x->G y): ∀i,∀x∈bfS nx first i,G x
 | 0=>by simp[bfS];exact h0
 | i+1=>by
  rw[bfS]
  split
  ·rename_i y hy
   intro x hx
   rcases xx.1 hx with hx | hx
   ·exact kR h0 h i x hx
   ·exact h y (kR h0 h i y (List.mem_of_getElem? hy)) x hx
  ·exact kR h0 h i
theorem GU (i:Nat):(bfS nx first i)[0]? =some first:=by
 obtain ⟨t,ht⟩:=xy (nx:=nx) (first:=first) (Nat.zero_le i)
 rw[<-ht];rfl
theorem j7: ∀ {i:Nat},(∀j,j<i->j<(bfS nx first j).length)->(bfR nx first i).length=i
 | 0,_=>rfl
 | i+1,h=>by rw[wk (h i (by omega)),aq,j7 fun j hj=>h j (by omega)];rfl
def bfE (nx:κ->List (Option κ)) (first:κ) (N:Nat):Prop:=N=(bfS nx first N).length/\ ∀i,i<N->i<(bfS nx first i).length
theorem Tt {B:Nat} (hB: ∀i,(bfS nx first i).length<=B): ∃N,N<=B/\bfE nx first N:=by
 have key: ∀m i,i+m=B->(∀j,j<i->j<(bfS nx first j).length)-> ∃N,N<=B/\bfE nx first N:=by
  intro m
  induction m with
  | zero =>
   intro i hi hj
   have h1:=hB i
   have h2:i<=(bfS nx first i).length:=by
    cases i with
    | zero=>omega
    | succ i =>
     have:=hj i (by omega)
     have hp:=(bQ (nx:=nx) (first:=first) i).length_le
     omega
   exact ⟨i,by omega,by omega,hj⟩
  | succ m ih =>
   intro i hi hj
   by_cases h:i<(bfS nx first i).length
   ·exact ih (i+1) (by omega) fun j hj'=>by
     by_cases e:j=i
     ·subst e;exact h
     ·exact hj j (by omega)
   ·have h2:i<=(bfS nx first i).length:=by
     cases i with
     | zero=>omega
     | succ i =>
      have:=hj i (by omega)
      have hp:=(bQ (nx:=nx) (first:=first) i).length_le
      omega
    exact ⟨i,by omega,by omega,hj⟩
 exact key B 0 (by omega) (by omega)
theorem RR {N M:Nat} (h:bfE nx first N) (k:bfE nx first M):N=M:=by
 rcases Nat.lt_trichotomy N M with e | e | e
 ·have:=k.2 N e;have:=h.1;omega
 ·exact e
 ·have:=h.2 M e;have:=k.1;omega
end
end D
namespace D
open Go.RowKit
section
variable {α:Type} [Inhabited α]
def smk (mk:α->Nat):List α->Nat
 | [] =>0
 | x::xs=>mk x+smk mk xs
def mkd (mk:α->Nat) (m:α->Nat->α):List α->Nat->List α
 | [],_=>[]
 | x::xs,k=>m x k::mkd mk m xs (k+mk x)
theorem En (mk:α->Nat): ∀(xs:List α) (x:α),smk mk (xs++ [x])=smk mk xs+mk x
 | [],x=>by simp[smk]
 | y::xs,x=>by simp[smk,En mk xs x,Nat.add_assoc]
theorem Eo (mk:α->Nat) (m:α->Nat->α): ∀(xs:List α) (x:α) (k:Nat),mkd mk m (xs++ [x]) k=mkd mk m xs k++ [m x (k+smk mk xs)]
 | [],x,k=>by simp[mkd,smk]
 | y::xs,x,k=>by simp[mkd,smk,Eo mk m xs x,Nat.add_assoc]
theorem be (mk:α->Nat) (m:α->Nat->α): ∀(xs:List α) (k:Nat),(mkd mk m xs k).length=xs.length
 | [],_=>rfl
 | x::xs,k=>by simp[mkd,be mk m xs]
theorem Ep (mk:α->Nat) (m:α->Nat->α): ∀(xs:List α) (k i:Nat),(mkd mk m xs k).take i=mkd mk m (xs.take i) k
 | [],_,_=>by simp[mkd]
 | x::xs,k,0=>by simp[mkd]
 | x::xs,k,i+1=>by simp[mkd,Ep mk m xs]
theorem RS {xs:List α} {k:Nat} (h:k<xs.length):xs.take (k+1)=xs.take k++ [nth xs (k:Int)]:=by
 rw[List.take_succ_eq_append_getElem h,bX h]
theorem XI (mk:α->Nat) (m:α->Nat->α) (xs:List α) (k:Nat) {i:Nat} (h:i<xs.length):nth (mkd mk m xs k) (i:Int)=m (nth xs (i:Int)) (k+smk mk (xs.take i)):=by
 have h':i<(mkd mk m xs k).length:=by rw[be];exact h
 have e:=RS h'
 rw[Ep,Ep,RS h,Eo] at e
 have:=List.append_cancel_left e
 simpa using this.symm
theorem Er (mk:α->Nat) {xs:List α} {i:Nat} (h:i<xs.length):smk mk (xs.take (i+1))=smk mk (xs.take i)+mk (nth xs (i:Int)):=by rw[RS h,En]
theorem OM (mk:α->Nat): ∀(xs:List α) (i:Nat),smk mk (xs.take i)<=smk mk xs
 | [],_=>by simp
 | x::xs,0=>by simp[smk]
 | x::xs,i+1=>by simp[smk];exact OM mk xs i
theorem jm (mk:α->Nat) {B:Nat} : ∀(xs:List α),(∀x∈xs,mk x<=B)->smk mk xs<=xs.length*B
 | [],_=>by simp[smk]
 | x::xs,h=>by
  have h1:=jm mk xs fun y hy=>h y (by simp[hy])
  have h2:=h x (by simp)
  simp only[smk,ak,Nat.add_mul,Nat.one_mul];omega
theorem VW {xs ys:List α} {i:Nat} (hi:i<xs.length) (hl:ys.length=i) (x:α):(ys++xs.drop i).set i x=ys++ [x] ++xs.drop (i+1):=by
 rw[List.set_append_right _ _ (by omega),hl,Nat.sub_self,List.drop_eq_getElem_cons hi,List.set_cons_zero,ai];rfl
theorem Es {R:Type} {f:List α×Int×Int->Option (Out R (List α×Int×Int))} (xs:List α) (mk:α->Nat) (m:α->Nat->α) (hN:xs.length<=9223372036854775807) {k:Nat} (hk:k+smk mk xs<=4611686018427387904)
  (hstep: ∀ys (i k:Nat),i<xs.length->ys.length=xs.length->nth ys (i:Int)=nth xs (i:Int)->k+mk (nth xs (i:Int))<=4611686018427387904->f (ys,(k:Int),(i:Int))=some (.nxt (ys.set i (m (nth xs (i:Int)) k),((k+mk (nth xs (i:Int)):Nat):Int),((i+1:Nat):Int))))
  (hend: ∀ys (k:Nat),ys.length=xs.length->f (ys,(k:Int),(xs.length:Int))=some (.brk (ys,(k:Int),(xs.length:Int)))) :
  az f aW (xs,(k:Int),0)=some (.brk (mkd mk m xs k,((k+smk mk xs:Nat):Int),(xs.length:Int))):=by
 have hlen: ∀i,i<=xs.length->(mkd mk m (xs.take i) k++xs.drop i).length=xs.length:=fun i hi=>by
  rw[aq,be,aB,aS];omega
 have:=bh (f:=f) (fun i=>(mkd mk m (xs.take i) k++xs.drop i,((k+smk mk (xs.take i):Nat):Int),(i:Int))) xs.length (fun i hi=>by
  have hl:(mkd mk m (xs.take i) k).length=i:=by rw[be,aB];omega
  have hle:=OM mk xs (i+1)
  rw[Er mk hi] at hle
  rw[hstep _ i (k+smk mk (xs.take i)) hi (hlen i (by omega)) ?_ (by omega),VW hi hl,RS hi,Eo,En,Nat.add_assoc]
  have h':i<(mkd mk m (xs.take i) k++xs.drop i).length:=by rw[hlen i (by omega)];exact hi
  rw[bX h',bX hi,List.getElem_append_right (by omega)]
  simp[hl]) (by
  have:=hend (mkd mk m (xs.take xs.length) k++xs.drop xs.length) (k+smk mk (xs.take xs.length)) (hlen _ (aC _))
  exact this) (ub hN)
 simpa [mkd,smk] using this
theorem Et {f:Int×Int->Option zp } (xs:List α) (mk:α->Nat) (m:α->Nat->α) (hN:xs.length<=9223372036854775807) {k:Nat} (hk:k+smk mk xs<=4611686018427387904)
  (hstep: ∀(i k':Nat),i<xs.length->nth (mkd mk m xs k) (i:Int)=m (nth xs (i:Int)) k'->k'+mk (nth xs (i:Int))<=4611686018427387904->f ((k':Int),(i:Int))=some (.nxt (((k'+mk (nth xs (i:Int)):Nat):Int),((i+1:Nat):Int))))
  (hend: ∀(k':Nat),f ((k':Int),(xs.length:Int))=some (.brk ((k':Int),(xs.length:Int)))) :
  az f aW ((k:Int),0)=some (.brk (((k+smk mk xs:Nat):Int),(xs.length:Int))):=by
 have:=bh (f:=f) (fun i=>(((k+smk mk (xs.take i):Nat):Int),(i:Int))) xs.length (fun i hi=>by
  have hle:=OM mk xs (i+1)
  rw[Er mk hi] at hle
  rw[hstep i (k+smk mk (xs.take i)) hi (XI mk m xs k hi) (by omega),Er mk hi,Nat.add_assoc]) (hend _) (ub hN)
 simpa [smk] using this
end
end D
set_option synthInstance.maxSize 20000
set_option synthInstance.maxHeartbeats 2000000
namespace D
open Go.RowKit
theorem kS {α:Type} {xs:List α} {i:Nat} {x:α} (h:i<xs.length):aQ (xs.set i x) (i:Int)=some x:=by
 rw[aE (by rw[List.length_set];exact h)];simp
theorem LL {n:Nat} :decide ((n:Int)<0)=false:=by simp only[decide_eq_false_iff_not];omega
def eC (x:Int):Nat:=1
def Bl (x:Int) (k:Nat):Int:=((k:Nat):Int)
theorem ON (xs:List Int) (hx:Data.sm xs):smk eC xs<=1048576*1:=by
 obtain ⟨h1,h2⟩:=aJ hx
 have b:=jm eC (B:=1) xs (fun x hx=>by
  simp[eC])
 exact Nat.le_trans b (Nat.mul_le_mul_right _ h1)
theorem OO (xs:List Int) (hx:Data.sm xs) {k:Nat} (hk:k+smk eC xs<=4611686018427387904):mc xs (k:Int)=some (((k+smk eC xs:Nat):Int),mkd eC Bl xs k):=by
 obtain ⟨hN,hs⟩:=aJ hx
 unfold mc
 rw[ax (Es (f:=kK) xs eC Bl (by omega) hk (fun ys i k hi hl he hk=>by
  have hz0:=hs _ (cv (xs:=xs) (i:=(i:Int)) (by omega) (by omega))
  unfold kK
  have hi':i<ys.length:=by omega
  generalize hz:nth xs (i:Int)=z at *
  have hk':k+(1)<=4611686018427387904:=hk
  simp only
  rw[if_pos (by simp;omega),aG (by omega) (by omega),he]
  simp only[aa,Int.toNat_natCast,kS hi',List.set_set,af (show i<9223372036854775807 by omega),af (show k<9223372036854775807 by omega)]
  have e:k+eC z=k+1:=by unfold eC;omega
  rw[e];rfl) (fun ys k hl=>by
  unfold kK
  simp only
  rw[if_neg (by simp;omega)]))]
theorem OP (xs:List Int) (hx:Data.sm xs) {k:Nat} (hk:k+smk eC xs<=4611686018427387904):me (mkd eC Bl xs k) (k:Int)=some ((k+smk eC xs:Nat):Int):=by
 obtain ⟨hN,hs⟩:=aJ hx
 unfold me
 rw[ax (Et (f:=kM _) xs eC Bl (by omega) hk (fun i k' hi he hk=>by
  have hz0:=hs _ (cv (xs:=xs) (i:=(i:Int)) (by omega) (by omega))
  unfold kM
  generalize hz:nth xs (i:Int)=z at *
  have hk':k'+(1)<=4611686018427387904:=hk
  simp only
  rw[if_pos (by simp[be];omega),aG (by omega) (by rw[be];omega),he]
  simp only[Bl,aa,bne_self_eq_false,Bool.false_eq_true,if_false,LL,af (show i<9223372036854775807 by omega),af (show k'<9223372036854775807 by omega)]
  have e:k'+eC z=k'+1:=by unfold eC;omega
  rw[e]) (fun k'=>by
  unfold kM
  simp only
  rw[if_neg (by simp[be])]))]
def fc (x:Int×Int×Int×Int):Nat:=1+1+1+1
def xz (x:Int×Int×Int×Int) (k:Nat):Int×Int×Int×Int:=(((k:Nat):Int),((k+1:Nat):Int),((k+1+1:Nat):Int),((k+1+1+1:Nat):Int))
theorem RT (xs:List Yq4) (hx:Data.sm xs):smk fc xs<=1048576*4:=by
 obtain ⟨h1,h2⟩:=aJ hx
 have b:=jm fc (B:=4) xs (fun x hx=>by
  simp[fc])
 exact Nat.le_trans b (Nat.mul_le_mul_right _ h1)
theorem RU (xs:List Yq4) (hx:Data.sm xs) {k:Nat} (hk:k+smk fc xs<=4611686018427387904):mQ xs (k:Int)=some (((k+smk fc xs:Nat):Int),mkd fc xz xs k):=by
 obtain ⟨hN,hs⟩:=aJ hx
 unfold mQ
 rw[ax (Es (f:=jz) xs fc xz (by omega) hk (fun ys i k hi hl he hk=>by
  have hz0:=hs _ (cv (xs:=xs) (i:=(i:Int)) (by omega) (by omega))
  unfold jz
  have hi':i<ys.length:=by omega
  generalize hz:nth xs (i:Int)=z at *
  have hk':k+(1+1+1+1)<=4611686018427387904:=hk
  simp only
  rw[if_pos (by simp;omega),aG (by omega) (by omega),he]
  simp only[aa,Int.toNat_natCast,kS hi',List.set_set,af (show i<9223372036854775807 by omega),af (show k<9223372036854775807 by omega),af (show k+1<9223372036854775807 by omega),af (show k+1+1<9223372036854775807 by omega),af (show k+1+1+1<9223372036854775807 by omega)]
  have e:k+fc z=k+1+1+1+1:=by unfold fc;omega
  rw[e];rfl) (fun ys k hl=>by
  unfold jz
  simp only
  rw[if_neg (by simp;omega)]))]
theorem RV (xs:List Yq4) (hx:Data.sm xs) {k:Nat} (hk:k+smk fc xs<=4611686018427387904):mT (mkd fc xz xs k) (k:Int)=some ((k+smk fc xs:Nat):Int):=by
 obtain ⟨hN,hs⟩:=aJ hx
 unfold mT
 rw[ax (Et (f:=jD _) xs fc xz (by omega) hk (fun i k' hi he hk=>by
  have hz0:=hs _ (cv (xs:=xs) (i:=(i:Int)) (by omega) (by omega))
  unfold jD
  generalize hz:nth xs (i:Int)=z at *
  have hk':k'+(1+1+1+1)<=4611686018427387904:=hk
  simp only
  rw[if_pos (by simp[be];omega),aG (by omega) (by rw[be];omega),he]
  simp only[xz,aa,bne_self_eq_false,Bool.false_eq_true,if_false,LL,af (show i<9223372036854775807 by omega),af (show k'<9223372036854775807 by omega),af (show k'+1<9223372036854775807 by omega),af (show k'+1+1<9223372036854775807 by omega),af (show k'+1+1+1<9223372036854775807 by omega)]
  have e:k'+fc z=k'+1+1+1+1:=by unfold fc;omega
  rw[e]) (fun k'=>by
  unfold jD
  simp only
  rw[if_neg (by simp[be])]))]
def dF (x:(List Int)×Yq1):Nat:=smk eC (x.1)+smk fc (x.2)
def tg (x:(List Int)×Yq1) (k:Nat):(List Int)×Yq1:=(mkd eC Bl (x.1) (k),mkd fc xz (x.2) (k+smk eC (x.1)))
theorem OQ (xs:List EZ) (hx:Data.sm xs):smk dF xs<=1048576*5242880:=by
 obtain ⟨h1,h2⟩:=aJ hx
 have b:=jm dF (B:=5242880) xs (fun x hx=>by
  have hs:=h2 x hx
  have q0:=ON (x.1) hs.1
  have q1:=RT (x.2) hs.2
  unfold dF;omega)
 exact Nat.le_trans b (Nat.mul_le_mul_right _ h1)
theorem OR (xs:List EZ) (hx:Data.sm xs) {k:Nat} (hk:k+smk dF xs<=4611686018427387904):lU xs (k:Int)=some (((k+smk dF xs:Nat):Int),mkd dF tg xs k):=by
 obtain ⟨hN,hs⟩:=aJ hx
 unfold lU
 rw[ax (Es (f:=iN) xs dF tg (by omega) hk (fun ys i k hi hl he hk=>by
  have hz0:=hs _ (cv (xs:=xs) (i:=(i:Int)) (by omega) (by omega))
  unfold iN
  have hi':i<ys.length:=by omega
  generalize hz:nth xs (i:Int)=z at *
  have hk':k+(smk eC (z.1)+smk fc (z.2))<=4611686018427387904:=hk
  have m0:=OO (z.1) hz0.1 (k:=k) (by omega)
  have m1:=RU (z.2) hz0.2 (k:=k+smk eC (z.1)) (by omega)
  simp only
  rw[if_pos (by simp;omega),aG (by omega) (by omega),he]
  simp only[aa,Int.toNat_natCast,kS hi',List.set_set,af (show i<9223372036854775807 by omega),m0,m1]
  have e:k+dF z=k+smk eC (z.1)+smk fc (z.2):=by unfold dF;omega
  rw[e];rfl) (fun ys k hl=>by
  unfold iN
  simp only
  rw[if_neg (by simp;omega)]))]
theorem OS (xs:List EZ) (hx:Data.sm xs) {k:Nat} (hk:k+smk dF xs<=4611686018427387904):lV (mkd dF tg xs k) (k:Int)=some ((k+smk dF xs:Nat):Int):=by
 obtain ⟨hN,hs⟩:=aJ hx
 unfold lV
 rw[ax (Et (f:=iP _) xs dF tg (by omega) hk (fun i k' hi he hk=>by
  have hz0:=hs _ (cv (xs:=xs) (i:=(i:Int)) (by omega) (by omega))
  unfold iP
  generalize hz:nth xs (i:Int)=z at *
  have hk':k'+(smk eC (z.1)+smk fc (z.2))<=4611686018427387904:=hk
  have m0:=OP (z.1) hz0.1 (k:=k') (by omega)
  have m1:=RV (z.2) hz0.2 (k:=k'+smk eC (z.1)) (by omega)
  simp only
  rw[if_pos (by simp[be];omega),aG (by omega) (by rw[be];omega),he]
  simp only[tg,aa,bne_self_eq_false,Bool.false_eq_true,if_false,LL,af (show i<9223372036854775807 by omega),m0,m1]
  have e:k'+dF z=k'+smk eC (z.1)+smk fc (z.2):=by unfold dF;omega
  rw[e]) (fun k'=>by
  unfold iP
  simp only
  rw[if_neg (by simp[be])]))]
def dG (x:Bool):Nat:=1
def xA (x:Bool) (k:Nat):Bool:=((Int.tmod ((k:Nat):Int) 3)==0)
theorem RW (xs:List Bool) (hx:Data.sm xs):smk dG xs<=1048576*1:=by
 obtain ⟨h1,h2⟩:=aJ hx
 have b:=jm dG (B:=1) xs (fun x hx=>by
  simp[dG])
 exact Nat.le_trans b (Nat.mul_le_mul_right _ h1)
theorem RX (xs:List Bool) (hx:Data.sm xs) {k:Nat} (hk:k+smk dG xs<=4611686018427387904):mR xs (k:Int)=some (((k+smk dG xs:Nat):Int),mkd dG xA xs k):=by
 obtain ⟨hN,hs⟩:=aJ hx
 unfold mR
 rw[ax (Es (f:=jA) xs dG xA (by omega) hk (fun ys i k hi hl he hk=>by
  have hz0:=hs _ (cv (xs:=xs) (i:=(i:Int)) (by omega) (by omega))
  unfold jA
  have hi':i<ys.length:=by omega
  generalize hz:nth xs (i:Int)=z at *
  have hk':k+(1)<=4611686018427387904:=hk
  simp only
  rw[if_pos (by simp;omega),aG (by omega) (by omega),he]
  simp only[aa,Int.toNat_natCast,kS hi',List.set_set,af (show i<9223372036854775807 by omega),af (show k<9223372036854775807 by omega)]
  have e:k+dG z=k+1:=by unfold dG;omega
  rw[e];rfl) (fun ys k hl=>by
  unfold jA
  simp only
  rw[if_neg (by simp;omega)]))]
theorem RY (xs:List Bool) (hx:Data.sm xs) {k:Nat} (hk:k+smk dG xs<=4611686018427387904):mU (mkd dG xA xs k) (k:Int)=some ((k+smk dG xs:Nat):Int):=by
 obtain ⟨hN,hs⟩:=aJ hx
 unfold mU
 rw[ax (Et (f:=jE _) xs dG xA (by omega) hk (fun i k' hi he hk=>by
  have hz0:=hs _ (cv (xs:=xs) (i:=(i:Int)) (by omega) (by omega))
  unfold jE
  generalize hz:nth xs (i:Int)=z at *
  have hk':k'+(1)<=4611686018427387904:=hk
  simp only
  rw[if_pos (by simp[be];omega),aG (by omega) (by rw[be];omega),he]
  simp only[xA,aa,bne_self_eq_false,Bool.false_eq_true,if_false,LL,af (show i<9223372036854775807 by omega),af (show k'<9223372036854775807 by omega)]
  have e:k'+dG z=k'+1:=by unfold dG;omega
  rw[e]) (fun k'=>by
  unfold jE
  simp only
  rw[if_neg (by simp[be])]))]
def fe (x:List Int):Nat:=smk eC (x)
def xB (x:List Int) (k:Nat):List Int:=mkd eC Bl x k
theorem RZ (xs:List (List Int)) (hx:Data.sm xs):smk fe xs<=1048576*1048576:=by
 obtain ⟨h1,h2⟩:=aJ hx
 have b:=jm fe (B:=1048576) xs (fun x hx=>by
  have hs:=h2 x hx
  have q0:=ON (x) hs
  unfold fe;omega)
 exact Nat.le_trans b (Nat.mul_le_mul_right _ h1)
theorem R0 (xs:List (List Int)) (hx:Data.sm xs) {k:Nat} (hk:k+smk fe xs<=4611686018427387904):mS xs (k:Int)=some (((k+smk fe xs:Nat):Int),mkd fe xB xs k):=by
 obtain ⟨hN,hs⟩:=aJ hx
 unfold mS
 rw[ax (Es (f:=jB) xs fe xB (by omega) hk (fun ys i k hi hl he hk=>by
  have hz0:=hs _ (cv (xs:=xs) (i:=(i:Int)) (by omega) (by omega))
  unfold jB
  have hi':i<ys.length:=by omega
  generalize hz:nth xs (i:Int)=z at *
  have hk':k+(smk eC (z))<=4611686018427387904:=hk
  have m0:=OO (z) hz0 (k:=k) (by omega)
  simp only
  rw[if_pos (by simp;omega),aG (by omega) (by omega),he]
  simp only[aa,Int.toNat_natCast,kS hi',List.set_set,af (show i<9223372036854775807 by omega),m0]
  have e:k+fe z=k+smk eC (z):=by unfold fe;omega
  rw[e];rfl) (fun ys k hl=>by
  unfold jB
  simp only
  rw[if_neg (by simp;omega)]))]
theorem R1 (xs:List (List Int)) (hx:Data.sm xs) {k:Nat} (hk:k+smk fe xs<=4611686018427387904):mV (mkd fe xB xs k) (k:Int)=some ((k+smk fe xs:Nat):Int):=by
 obtain ⟨hN,hs⟩:=aJ hx
 unfold mV
 rw[ax (Et (f:=jF _) xs fe xB (by omega) hk (fun i k' hi he hk=>by
  have hz0:=hs _ (cv (xs:=xs) (i:=(i:Int)) (by omega) (by omega))
  unfold jF
  generalize hz:nth xs (i:Int)=z at *
  have hk':k'+(smk eC (z))<=4611686018427387904:=hk
  have m0:=OP (z) hz0 (k:=k') (by omega)
  simp only
  rw[if_pos (by simp[be];omega),aG (by omega) (by rw[be];omega),he]
  simp only[xB,aa,bne_self_eq_false,Bool.false_eq_true,if_false,LL,af (show i<9223372036854775807 by omega),m0]
  have e:k'+fe z=k'+smk eC (z):=by unfold fe;omega
  rw[e]) (fun k'=>by
  unfold jF
  simp only
  rw[if_neg (by simp[be])]))]
def br (x:Int×(List Bool)×(List (List Int))):Nat:=1+smk dG (x.2.1)+smk fe (x.2.2)
def j8 (x:Int×(List Bool)×(List (List Int))) (k:Nat):Int×(List Bool)×(List (List Int)):=(((k:Nat):Int),mkd dG xA (x.2.1) (k+1),mkd fe xB (x.2.2) (k+1+smk dG (x.2.1)))
theorem Eu (xs:List Yq2) (hx:Data.sm xs):smk br xs<=1048576*1099512676353:=by
 obtain ⟨h1,h2⟩:=aJ hx
 have b:=jm br (B:=1099512676353) xs (fun x hx=>by
  have hs:=h2 x hx
  have q0:=RW (x.2.1) hs.2.1
  have q1:=RZ (x.2.2) hs.2.2
  unfold br;omega)
 exact Nat.le_trans b (Nat.mul_le_mul_right _ h1)
theorem Ev (xs:List Yq2) (hx:Data.sm xs) {k:Nat} (hk:k+smk br xs<=4611686018427387904):gK xs (k:Int)=some (((k+smk br xs:Nat):Int),mkd br j8 xs k):=by
 obtain ⟨hN,hs⟩:=aJ hx
 unfold gK
 rw[ax (Es (f:=eV) xs br j8 (by omega) hk (fun ys i k hi hl he hk=>by
  have hz0:=hs _ (cv (xs:=xs) (i:=(i:Int)) (by omega) (by omega))
  unfold eV
  have hi':i<ys.length:=by omega
  generalize hz:nth xs (i:Int)=z at *
  have hk':k+(1+smk dG (z.2.1)+smk fe (z.2.2))<=4611686018427387904:=hk
  have m0:=RX (z.2.1) hz0.2.1 (k:=k+1) (by omega)
  have m1:=R0 (z.2.2) hz0.2.2 (k:=k+1+smk dG (z.2.1)) (by omega)
  simp only
  rw[if_pos (by simp;omega),aG (by omega) (by omega),he]
  simp only[aa,Int.toNat_natCast,kS hi',List.set_set,af (show i<9223372036854775807 by omega),af (show k<9223372036854775807 by omega),m0,m1]
  have e:k+br z=k+1+smk dG (z.2.1)+smk fe (z.2.2):=by unfold br;omega
  rw[e];rfl) (fun ys k hl=>by
  unfold eV
  simp only
  rw[if_neg (by simp;omega)]))]
theorem Ew (xs:List Yq2) (hx:Data.sm xs) {k:Nat} (hk:k+smk br xs<=4611686018427387904):gL (mkd br j8 xs k) (k:Int)=some ((k+smk br xs:Nat):Int):=by
 obtain ⟨hN,hs⟩:=aJ hx
 unfold gL
 rw[ax (Et (f:=eW _) xs br j8 (by omega) hk (fun i k' hi he hk=>by
  have hz0:=hs _ (cv (xs:=xs) (i:=(i:Int)) (by omega) (by omega))
  unfold eW
  generalize hz:nth xs (i:Int)=z at *
  have hk':k'+(1+smk dG (z.2.1)+smk fe (z.2.2))<=4611686018427387904:=hk
  have m0:=RY (z.2.1) hz0.2.1 (k:=k'+1) (by omega)
  have m1:=R1 (z.2.2) hz0.2.2 (k:=k'+1+smk dG (z.2.1)) (by omega)
  simp only
  rw[if_pos (by simp[be];omega),aG (by omega) (by rw[be];omega),he]
  simp only[j8,aa,bne_self_eq_false,Bool.false_eq_true,if_false,LL,af (show i<9223372036854775807 by omega),af (show k'<9223372036854775807 by omega),m0,m1]
  have e:k'+br z=k'+1+smk dG (z.2.1)+smk fe (z.2.2):=by unfold br;omega
  rw[e]) (fun k'=>by
  unfold eW
  simp only
  rw[if_neg (by simp[be])]))]
def b8 (x:Int×Int×Int×Int):Nat:=1+1+1+1
def qB (x:Int×Int×Int×Int) (k:Nat):Int×Int×Int×Int:=(((k:Nat):Int),((k+1:Nat):Int),((k+1+1:Nat):Int),((k+1+1+1:Nat):Int))
theorem GV (xs:List Yq4) (hx:Data.sm xs):smk b8 xs<=1048576*4:=by
 obtain ⟨h1,h2⟩:=aJ hx
 have b:=jm b8 (B:=4) xs (fun x hx=>by
  simp[b8])
 exact Nat.le_trans b (Nat.mul_le_mul_right _ h1)
theorem GW (xs:List Yq4) (hx:Data.sm xs) {k:Nat} (hk:k+smk b8 xs<=4611686018427387904):jl xs (k:Int)=some (((k+smk b8 xs:Nat):Int),mkd b8 qB xs k):=by
 obtain ⟨hN,hs⟩:=aJ hx
 unfold jl
 rw[ax (Es (f:=iO) xs b8 qB (by omega) hk (fun ys i k hi hl he hk=>by
  have hz0:=hs _ (cv (xs:=xs) (i:=(i:Int)) (by omega) (by omega))
  unfold iO
  have hi':i<ys.length:=by omega
  generalize hz:nth xs (i:Int)=z at *
  have hk':k+(1+1+1+1)<=4611686018427387904:=hk
  simp only
  rw[if_pos (by simp;omega),aG (by omega) (by omega),he]
  simp only[aa,Int.toNat_natCast,kS hi',List.set_set,af (show i<9223372036854775807 by omega),af (show k<9223372036854775807 by omega),af (show k+1<9223372036854775807 by omega),af (show k+1+1<9223372036854775807 by omega),af (show k+1+1+1<9223372036854775807 by omega)]
  have e:k+b8 z=k+1+1+1+1:=by unfold b8;omega
  rw[e];rfl) (fun ys k hl=>by
  unfold iO
  simp only
  rw[if_neg (by simp;omega)]))]
theorem OT (xs:List Yq4) (hx:Data.sm xs) {k:Nat} (hk:k+smk b8 xs<=4611686018427387904):lW (mkd b8 qB xs k) (k:Int)=some ((k+smk b8 xs:Nat):Int):=by
 obtain ⟨hN,hs⟩:=aJ hx
 unfold lW
 rw[ax (Et (f:=iQ _) xs b8 qB (by omega) hk (fun i k' hi he hk=>by
  have hz0:=hs _ (cv (xs:=xs) (i:=(i:Int)) (by omega) (by omega))
  unfold iQ
  generalize hz:nth xs (i:Int)=z at *
  have hk':k'+(1+1+1+1)<=4611686018427387904:=hk
  simp only
  rw[if_pos (by simp[be];omega),aG (by omega) (by rw[be];omega),he]
  simp only[qB,aa,bne_self_eq_false,Bool.false_eq_true,if_false,LL,af (show i<9223372036854775807 by omega),af (show k'<9223372036854775807 by omega),af (show k'+1<9223372036854775807 by omega),af (show k'+1+1<9223372036854775807 by omega),af (show k'+1+1+1<9223372036854775807 by omega)]
  have e:k'+b8 z=k'+1+1+1+1:=by unfold b8;omega
  rw[e]) (fun k'=>by
  unfold iQ
  simp only
  rw[if_neg (by simp[be])]))]
def bt (x:Int×(Yq1)×Int):Nat:=1+smk b8 (x.2.1)+1
def iS (x:Int×(Yq1)×Int) (k:Nat):Int×(Yq1)×Int:=(((k:Nat):Int),mkd b8 qB (x.2.1) (k+1),((k+1+smk b8 (x.2.1):Nat):Int))
theorem Cb (xs:List Yq9) (hx:Data.sm xs):smk bt xs<=1048576*4194306:=by
 obtain ⟨h1,h2⟩:=aJ hx
 have b:=jm bt (B:=4194306) xs (fun x hx=>by
  have hs:=h2 x hx
  have q0:=GV (x.2.1) hs.2.1
  unfold bt;omega)
 exact Nat.le_trans b (Nat.mul_le_mul_right _ h1)
theorem Cc (xs:List Yq9) (hx:Data.sm xs) {k:Nat} (hk:k+smk bt xs<=4611686018427387904):gg xs (k:Int)=some (((k+smk bt xs:Nat):Int),mkd bt iS xs k):=by
 obtain ⟨hN,hs⟩:=aJ hx
 unfold gg
 rw[ax (Es (f:=ep) xs bt iS (by omega) hk (fun ys i k hi hl he hk=>by
  have hz0:=hs _ (cv (xs:=xs) (i:=(i:Int)) (by omega) (by omega))
  unfold ep
  have hi':i<ys.length:=by omega
  generalize hz:nth xs (i:Int)=z at *
  have hk':k+(1+smk b8 (z.2.1)+1)<=4611686018427387904:=hk
  have m0:=GW (z.2.1) hz0.2.1 (k:=k+1) (by omega)
  simp only
  rw[if_pos (by simp;omega),aG (by omega) (by omega),he]
  simp only[aa,Int.toNat_natCast,kS hi',List.set_set,af (show i<9223372036854775807 by omega),af (show k<9223372036854775807 by omega),af (show k+1+smk b8 (z.2.1)<9223372036854775807 by omega),m0]
  have e:k+bt z=k+1+smk b8 (z.2.1)+1:=by unfold bt;omega
  rw[e];rfl) (fun ys k hl=>by
  unfold ep
  simp only
  rw[if_neg (by simp;omega)]))]
theorem Cd (xs:List Yq9) (hx:Data.sm xs) {k:Nat} (hk:k+smk bt xs<=4611686018427387904):gj (mkd bt iS xs k) (k:Int)=some ((k+smk bt xs:Nat):Int):=by
 obtain ⟨hN,hs⟩:=aJ hx
 unfold gj
 rw[ax (Et (f:=ez _) xs bt iS (by omega) hk (fun i k' hi he hk=>by
  have hz0:=hs _ (cv (xs:=xs) (i:=(i:Int)) (by omega) (by omega))
  unfold ez
  generalize hz:nth xs (i:Int)=z at *
  have hk':k'+(1+smk b8 (z.2.1)+1)<=4611686018427387904:=hk
  have m0:=OT (z.2.1) hz0.2.1 (k:=k'+1) (by omega)
  simp only
  rw[if_pos (by simp[be];omega),aG (by omega) (by rw[be];omega),he]
  simp only[iS,aa,bne_self_eq_false,Bool.false_eq_true,if_false,LL,af (show i<9223372036854775807 by omega),af (show k'<9223372036854775807 by omega),af (show k'+1+smk b8 (z.2.1)<9223372036854775807 by omega),m0]
  have e:k'+bt z=k'+1+smk b8 (z.2.1)+1:=by unfold bt;omega
  rw[e]) (fun k'=>by
  unfold ez
  simp only
  rw[if_neg (by simp[be])]))]
def bu (x:Int×Int×Int):Nat:=1+1+1
def iT (x:Int×Int×Int) (k:Nat):Int×Int×Int:=(((k:Nat):Int),((k+1:Nat):Int),((k+1+1:Nat):Int))
theorem Ce (xs:List E3) (hx:Data.sm xs):smk bu xs<=1048576*3:=by
 obtain ⟨h1,h2⟩:=aJ hx
 have b:=jm bu (B:=3) xs (fun x hx=>by
  simp[bu])
 exact Nat.le_trans b (Nat.mul_le_mul_right _ h1)
theorem Cf (xs:List E3) (hx:Data.sm xs) {k:Nat} (hk:k+smk bu xs<=4611686018427387904):gi xs (k:Int)=some (((k+smk bu xs:Nat):Int),mkd bu iT xs k):=by
 obtain ⟨hN,hs⟩:=aJ hx
 unfold gi
 rw[ax (Es (f:=eu) xs bu iT (by omega) hk (fun ys i k hi hl he hk=>by
  have hz0:=hs _ (cv (xs:=xs) (i:=(i:Int)) (by omega) (by omega))
  unfold eu
  have hi':i<ys.length:=by omega
  generalize hz:nth xs (i:Int)=z at *
  have hk':k+(1+1+1)<=4611686018427387904:=hk
  simp only
  rw[if_pos (by simp;omega),aG (by omega) (by omega),he]
  simp only[aa,Int.toNat_natCast,kS hi',List.set_set,af (show i<9223372036854775807 by omega),af (show k<9223372036854775807 by omega),af (show k+1<9223372036854775807 by omega),af (show k+1+1<9223372036854775807 by omega)]
  have e:k+bu z=k+1+1+1:=by unfold bu;omega
  rw[e];rfl) (fun ys k hl=>by
  unfold eu
  simp only
  rw[if_neg (by simp;omega)]))]
theorem Cg (xs:List E3) (hx:Data.sm xs) {k:Nat} (hk:k+smk bu xs<=4611686018427387904):gk (mkd bu iT xs k) (k:Int)=some ((k+smk bu xs:Nat):Int):=by
 obtain ⟨hN,hs⟩:=aJ hx
 unfold gk
 rw[ax (Et (f:=eA _) xs bu iT (by omega) hk (fun i k' hi he hk=>by
  have hz0:=hs _ (cv (xs:=xs) (i:=(i:Int)) (by omega) (by omega))
  unfold eA
  generalize hz:nth xs (i:Int)=z at *
  have hk':k'+(1+1+1)<=4611686018427387904:=hk
  simp only
  rw[if_pos (by simp[be];omega),aG (by omega) (by rw[be];omega),he]
  simp only[iT,aa,bne_self_eq_false,Bool.false_eq_true,if_false,LL,af (show i<9223372036854775807 by omega),af (show k'<9223372036854775807 by omega),af (show k'+1<9223372036854775807 by omega),af (show k'+1+1<9223372036854775807 by omega)]
  have e:k'+bu z=k'+1+1+1:=by unfold bu;omega
  rw[e]) (fun k'=>by
  unfold eA
  simp only
  rw[if_neg (by simp[be])]))]
def cw (x:Int×Yq5):Nat:=smk dF (x.2)
def wm (x:Int×Yq5) (k:Nat):Int×Yq5:=(x.1,mkd dF tg (x.2) (k))
theorem LM (x:Int×Yq5) (hx:Data.sm x):cw x<=5497558138880:=by
 have q0:=OQ (x.2) hx.2
 unfold cw;omega
theorem LN (x:Int×Yq5) (hx:Data.sm x) {k:Nat} (hk:k+cw x<=4611686018427387904):kL x (k:Int)=some (((k+cw x:Nat):Int),wm x k):=by
 unfold cw at hk
 have m0:=OR (x.2) hx.2 (k:=k) (by omega)
 unfold kL
 simp only[dM,aa,m0]
 have e:k+cw x=k+smk dF (x.2):=by unfold cw;omega
 rw[e];rfl
theorem LO (x:Int×Yq5) (hx:Data.sm x) {k:Nat} (hk:k+cw x<=4611686018427387904):kN (wm x k) (k:Int)=some ((k+cw x:Nat):Int):=by
 unfold cw at hk
 have m0:=OS (x.2) hx.2 (k:=k) (by omega)
 unfold kN wm
 simp only[dM,aa,Bool.false_eq_true,if_false,LL,m0]
 have e:k+cw x=k+smk dF (x.2):=by unfold cw;omega
 rw[e]
def cr (x:(List Yq2)×Yq3):Nat:=smk br (x.1)+smk bt (x.2)
def th (x:(List Yq2)×Yq3) (k:Nat):(List Yq2)×Yq3:=(mkd br j8 (x.1) (k),mkd bt iS (x.2) (k+smk br (x.1)))
theorem IM (x:(List Yq2)×Yq3) (hx:Data.sm x):cr x<=1152927002168131584:=by
 have q0:=Eu (x.1) hx.1
 have q1:=Cb (x.2) hx.2
 unfold cr;omega
theorem IN (x:(List Yq2)×Yq3) (hx:Data.sm x) {k:Nat} (hk:k+cr x<=4611686018427387904):jC x (k:Int)=some (((k+cr x:Nat):Int),th x k):=by
 unfold cr at hk
 have m0:=Ev (x.1) hx.1 (k:=k) (by omega)
 have m1:=Cc (x.2) hx.2 (k:=k+smk br (x.1)) (by omega)
 unfold jC
 simp only[dM,aa,m0,m1]
 have e:k+cr x=k+smk br (x.1)+smk bt (x.2):=by unfold cr;omega
 rw[e];rfl
theorem IP (x:(List Yq2)×Yq3) (hx:Data.sm x) {k:Nat} (hk:k+cr x<=4611686018427387904):jG (th x k) (k:Int)=some ((k+cr x:Nat):Int):=by
 unfold cr at hk
 have m0:=Ew (x.1) hx.1 (k:=k) (by omega)
 have m1:=Cd (x.2) hx.2 (k:=k+smk br (x.1)) (by omega)
 unfold jG th
 simp only[dM,aa,Bool.false_eq_true,if_false,LL,m0,m1]
 have e:k+cr x=k+smk br (x.1)+smk bt (x.2):=by unfold cr;omega
 rw[e]
def iU (x:(Int×Yq5)×Yq7×Yq8×ByteArray):Nat:=cw (x.1)+cr (x.2.1)+smk bu (x.2.2.1)
def tj (x:(Int×Yq5)×Yq7×Yq8×ByteArray) (k:Nat):(Int×Yq5)×Yq7×Yq8×ByteArray:=(wm (x.1) (k),th (x.2.1) (k+cw (x.1)),mkd bu iT (x.2.2.1) (k+cw (x.1)+cr (x.2.1)),x.2.2.2)
theorem GX (x:(Int×Yq5)×Yq7×Yq8×ByteArray) (hx:Data.sm x):iU x<=1152932499729416192:=by
 have q0:=LM (x.1) hx.1
 have q1:=IM (x.2.1) hx.2.1
 have q2:=Ce (x.2.2.1) hx.2.2.1
 unfold iU;omega
theorem GY (x:(Int×Yq5)×Yq7×Yq8×ByteArray) (hx:Data.sm x) {k:Nat} (hk:k+iU x<=4611686018427387904):fb x (k:Int)=some (((k+iU x:Nat):Int),tj x k):=by
 unfold iU at hk
 have m0:=LN (x.1) hx.1 (k:=k) (by omega)
 have m1:=IN (x.2.1) hx.2.1 (k:=k+cw (x.1)) (by omega)
 have m2:=Cf (x.2.2.1) hx.2.2.1 (k:=k+cw (x.1)+cr (x.2.1)) (by omega)
 unfold fb
 simp only[dM,aa,m0,m1,m2]
 have e:k+iU x=k+cw (x.1)+cr (x.2.1)+smk bu (x.2.2.1):=by unfold iU;omega
 rw[e];rfl
theorem OU (x:(Int×Yq5)×Yq7×Yq8×ByteArray) (hx:Data.sm x) {k:Nat} (hk:k+iU x<=4611686018427387904):gC (tj x k) (k:Int)=some ((k+iU x:Nat):Int):=by
 unfold iU at hk
 have m0:=LO (x.1) hx.1 (k:=k) (by omega)
 have m1:=IP (x.2.1) hx.2.1 (k:=k+cw (x.1)) (by omega)
 have m2:=Cg (x.2.2.1) hx.2.2.1 (k:=k+cw (x.1)+cr (x.2.1)) (by omega)
 unfold gC tj
 simp only[dM,aa,Bool.false_eq_true,if_false,LL,m0,m1,m2]
 have e:k+iU x=k+cw (x.1)+cr (x.2.1)+smk bu (x.2.2.1):=by unfold iU;omega
 rw[e]
def Bm (x:Yq1):Nat:=smk b8 (x)
def XJ (x:Yq1) (k:Nat):Yq1:=mkd b8 qB (x) (k)
theorem VX (x:Yq1) (hx:Data.sm x):Bm x<=4194304:=by
 have q0:=GV (x) hx
 unfold Bm;omega
theorem VY (x:Yq1) (hx:Data.sm x) {k:Nat} (hk:k+Bm x<=4611686018427387904):oy x (k:Int)=some (((k+Bm x:Nat):Int),XJ x k):=by
 unfold Bm at hk
 have m0:=GW (x) hx (k:=k) (by omega)
 unfold oy
 simp only[dM,aa,m0]
 have e:k+Bm x=k+smk b8 (x):=by unfold Bm;omega
 rw[e];rfl
end D
namespace D
abbrev Pr:=Int×Int
def ltP (a b:Pr):Prop:=a.1<b.1\/a.1=b.1/\a.2<b.2
instance (a b:Pr):Decidable (ltP a b):=inferInstanceAs (Decidable (_\/_))
end D
namespace D
open Go.RowKit
section
variable {l m:List Pr} {p:Pr}
end
end D
namespace D
open Go.RowKit
end D
set_option synthInstance.maxSize 20000
set_option synthInstance.maxHeartbeats 2000000
namespace D
open Go.RowKit
end D
set_option synthInstance.maxSize 20000
set_option synthInstance.maxHeartbeats 2000000
namespace D
open Go.RowKit
def mkB (l:List UInt8):ByteArray:=⟨l.toArray⟩
theorem VZ (a b:List UInt8):mkB a++mkB b=mkB (a++b):=ByteArray.ext (by simp[mkB])
theorem bO (a:List UInt8):(mkB a).size=a.length:=by simp[mkB,ByteArray.size]
theorem eZ (a:List UInt8):(mkB a).data.toList=a:=by simp[mkB]
theorem Ex (a b:List UInt8) (h:a.length+b.length<=9223372036854775807):mq (mkB a) (mkB b)=some (mkB (a++b)):=by
 unfold mq chk
 rw[bO,bO,if_pos h,aa,VZ]
theorem Z8: ∀d:Fin 10,IntKind.u8.wrap (IntKind.i64.wrap (48+(d.val:Int)))=48+(d.val:Int):=by decide
theorem Z9 {d:Nat} (h:d<10):xQ [IntKind.u8.wrap (IntKind.i64.wrap (48+(d:Int)))] =mkB [UInt8.ofNat (48+d)]:=by
 rw[Z8 ⟨d,h⟩]
 show ByteArray.empty.push (UInt8.ofNat (48+(d:Int)).toNat)=_
 rw[show (48+(d:Int)).toNat=48+d by omega];rfl
theorem aaa (m:Int):(if decide ((Int.tmod m 10)<0) then (some (IntKind.i64.wrap (-(Int.tmod m 10)))) else (some (Int.tmod m 10)):Option Int)=some ((m.natAbs % 10:Nat):Int):=by
 by_cases h:m<0
 ·obtain ⟨k,rfl⟩: ∃k:Nat,m= -(k:Int):=⟨m.natAbs,by omega⟩
  have e:Int.tmod (-(k:Int)) 10= -((k % 10:Nat):Int):=by rw[Int.neg_tmod];rfl
  rw[e,Int.natAbs_neg,Int.natAbs_natCast]
  by_cases h0:k % 10=0
  ·rw[h0];rfl
  ·rw[if_pos (decide_eq_true (by omega)),Int.neg_neg,fg (by omega) (by omega)]
 ·obtain ⟨k,rfl⟩: ∃k:Nat,m=(k:Int):=⟨m.natAbs,by omega⟩
  have e:Int.tmod (k:Int) 10=((k % 10:Nat):Int):=rfl
  rw[e,if_neg (by simp;omega),Int.natAbs_natCast]
theorem ZV {m:Int} (h:I64 m):P0 m 10=m.tdiv 10/\(m.tdiv 10).natAbs=m.natAbs / 10:=by
 have k:(m.tdiv 10).natAbs=m.natAbs / 10:=Int.natAbs_tdiv m 10
 unfold I64 at h
 refine ⟨?_,k⟩
 unfold P0
 exact fg (by omega) (by omega)
theorem V0 {m:Int} {out:List UInt8} (h0:m≠0) (h:I64 m) (hl:out.length<=1000):dw (m,mkB out)=some (.nxt (m.tdiv 10,mkB (UInt8.ofNat (48+m.natAbs % 10)::out))):=by
 unfold dw
 simp only[]
 rw[if_pos (by simpa using h0),aaa,aa,Z9 (Nat.mod_lt _ (by omega)),Ex _ _ (by simp;omega),aa,(ZV h).1];rfl
theorem Tu (u:Nat):1<=Lib.nDigits u:=by
 by_cases h:u<10
 ·rw[Lib.nDigits_small h];omega
 ·rw[Lib.nDigits_big h];omega
theorem OV: ∀(k:Nat) (m:Int) (out:List UInt8),m≠0->I64 m->Lib.nDigits m.natAbs<=k->out.length+Lib.nDigits m.natAbs<=100->az dw (k+1) (m,mkB out)=some (.brk (0,mkB (Lib.decDigits m.natAbs++out)))
 | 0,m,out,_,_,h,_=>by have:=Tu m.natAbs;omega
 | k+1,m,out,h0,hm,h,hl=>by
  rw[az,V0 h0 hm (by omega)]
  show az dw (k+1) (m.tdiv 10,_)=_
  have hq:=(ZV hm).2
  by_cases h1:m.natAbs<10
  ·have hz:m.tdiv 10=0:=by
    have:(m.tdiv 10).natAbs=0:=by rw[hq];omega
    omega
   rw[hz,az]
   have:dw (0,mkB (UInt8.ofNat (48+m.natAbs % 10)::out))=some (.brk (0,mkB (UInt8.ofNat (48+m.natAbs % 10)::out))):=rfl
   rw[this,Lib.decDigits_one h1,Nat.mod_eq_of_lt h1];rfl
  ·have hz:m.tdiv 10≠0:=by
    intro e
    rw[e] at hq
    have:m.natAbs / 10=0:=by simpa using hq.symm
    omega
   have hn:=Lib.nDigits_big h1
   have hi:I64 (m.tdiv 10):=by unfold I64 at hm⊢;omega
   rw[OV k _ _ hz hi (by rw[hq];omega) (by rw[hq,ak];omega),hq]
   have:Lib.decDigits m.natAbs=Lib.decDigits (m.natAbs / 10)++ [UInt8.ofNat (48+m.natAbs % 10)]:=by rw[Lib.decDigits,dif_neg h1]
   rw[this,ai];rfl
theorem rh {n:Int} (h:I64 n):(Lib.itoa n).length<=21:=Lib.itoa_length_le n h.1 h.2
theorem Zb {n:Int} (h:I64 n):Lib.nDigits n.natAbs<=21:=by
 have:=rh h
 unfold Lib.itoa at this
 split at this
 ·rw[ak,Lib.decDigits_length] at this;omega
 ·rw[Lib.decDigits_length] at this
  rw[show n.natAbs=n.toNat by omega];exact this
theorem tl {n:Int} (h:I64 n):bY n=some (mkB (Lib.itoa n)):=by
 unfold bY
 by_cases h0:n=0
 ·subst h0
  rw[if_pos (by rfl:((0:Int)==0)=true)]
  have:Lib.itoa 0= [48]:=by unfold Lib.itoa;rw[if_neg (by decide)];exact Lib.decDigits_one (by decide)
  rw[this];rfl
 rw[if_neg (by simpa using h0)]
 have hn:=Zb h
 have hf:=dK 100 (by omega)
 obtain ⟨k,hk⟩: ∃k,aW=k+1:=⟨aW - 1,by omega⟩
 have hL:az dw aW (n,(⟨#[]⟩:ByteArray))=some (.brk (0,mkB (Lib.decDigits n.natAbs++ []))):=by
  rw[hk];exact OV k n [] h0 h (by omega) (by simp;omega)
 rw[ax hL,List.append_nil]
 have hd:(Lib.decDigits n.natAbs).length<=21:=by rw[Lib.decDigits_length];exact hn
 unfold Lib.itoa
 by_cases h1:n<0
 ·rw[if_pos (decide_eq_true h1),if_pos h1]
  show (mq (mkB [45]) _).bind _=_
  rw[Ex _ _ (by simp;omega)];rfl
 ·rw[if_neg (by simpa using h1),if_neg h1,show n.natAbs=n.toNat by omega]
theorem wo {n:Int} (h:I64 n):db n=some (mkB (Lib.itoa n)):=by
 unfold db my R.RK chk
 rw[if_pos (show -9223372036854775808<=n/\n<=9223372036854775807 from h)];rfl
theorem OW (xs:List (List UInt8)) (y sep:List UInt8):Lib.join (xs++ [y]) sep=if xs= [] then y else Lib.join xs sep++sep++y:=by
 cases xs with
 | nil=>rw[if_pos rfl];exact Lib.join_one _ _
 | cons x r =>
  rw[if_neg (by simp),List.cons_append,Lib.join_cons,Lib.join_cons]
  simp[Lib.joinTail,ai]
end D
namespace D
open Go.RowKit
theorem Bn: ∀(a:List UInt8) (acc:Nat) (b:List UInt8),Lib.decFrom acc (a++b)=(Lib.decFrom acc a).bind fun m=>Lib.decFrom m b
 | [],acc,b=>rfl
 | x::a,acc,b=>by
  rw[List.cons_append,Lib.decFrom,Lib.decFrom]
  cases Lib.digitVal x with
  | none=>rfl
  | some d=>exact Bn a _ b
theorem OX {d:Nat} (h:d<10):Lib.digitVal (UInt8.ofNat (48+d))=some d:=by
 have e:(UInt8.ofNat (48+d)).toNat=48+d:=by simp;omega
 unfold Lib.digitVal
 rw[e,if_pos ⟨by omega,by omega⟩]
 congr 1;omega
theorem zq {u:Nat} (h: ¬u<10):Lib.decDigits u=Lib.decDigits (u / 10)++ [UInt8.ofNat (48+u % 10)]:=by rw[Lib.decDigits,dif_neg h]
theorem IQ (u:Nat):Lib.decFrom 0 (Lib.decDigits u)=some u:=by
 induction u using Nat.strongRecOn with
 | _ u ih =>
  by_cases h:u<10
  ·rw[Lib.decDigits_one h,Lib.decFrom,OX h]
   simp[Lib.decFrom]
  ·rw[zq h,Bn,ih (u / 10) (by omega),aa,Lib.decFrom,OX (Nat.mod_lt _ (by omega))]
   simp only[Lib.decFrom]
   congr 1;omega
theorem XK (u:Nat):Lib.decDigits u≠ []:=fun h=>by
 have:=Lib.decDigits_length u
 rw[h] at this
 have:=Tu u
 simp at *;omega
theorem C3 (u:Nat):Lib.decNat (Lib.decDigits u)=some u:=by
 unfold Lib.decNat
 rw[if_neg (by simpa using XK u),IQ]
theorem Kl (u:Nat): ∃d r,d<10/\Lib.decDigits u=UInt8.ofNat (48+d)::r:=by
 induction u using Nat.strongRecOn with
 | _ u ih =>
  by_cases h:u<10
  ·exact ⟨u,[],h,Lib.decDigits_one h⟩
  ·obtain ⟨d,r,hd,e⟩:=ih (u / 10) (by omega)
   exact ⟨d,_,hd,by rw[zq h,e];rfl⟩
theorem IR {d:Nat} (h:d<10):(UInt8.ofNat (48+d)==45)=false/\(UInt8.ofNat (48+d)==43)=false:=by
 have: ∀d:Fin 10,(UInt8.ofNat (48+d.val)==45)=false/\(UInt8.ofNat (48+d.val)==43)=false:=by decide
 exact this ⟨d,h⟩
theorem OY (n:Int):Lib.atoi (Lib.itoa n)=some n:=by
 unfold Lib.itoa
 by_cases h:n<0
 ·rw[if_pos h]
  show (Lib.decNat (Lib.decDigits n.natAbs)).map (fun (m:Nat)=> -(m:Int))=_
  rw[C3]
  simp;omega
 ·rw[if_neg h]
  obtain ⟨d,r,hd,e⟩:=Kl n.toNat
  have k:=C3 n.toNat
  rw[e] at k⊢
  show (if (UInt8.ofNat (48+d)==45)=true then _ else if (UInt8.ofNat (48+d)==43)=true then _ else _)=_
  rw[if_neg (by rw[(IR hd).1];decide),if_neg (by rw[(IR hd).2];decide),k]
  simp;omega
def dst (p:Nat×Nat) (b:UInt8):Nat×Nat:=if 48<=b.toNat/\b.toNat<=57 then (p.1*10+(b.toNat - 48),p.2+1) else p
theorem OZ {d:Nat} (h:d<10) (p:Nat×Nat):dst p (UInt8.ofNat (48+d))=(p.1*10+d,p.2+1):=by
 have e:(UInt8.ofNat (48+d)).toNat=48+d:=by simp;omega
 unfold dst
 rw[e,if_pos ⟨by omega,by omega⟩,show 48+d - 48=d by omega]
theorem O0 (u:Nat):(Lib.decDigits u).foldl dst (0,0)=(u,Lib.nDigits u):=by
 induction u using Nat.strongRecOn with
 | _ u ih =>
  by_cases h:u<10
  ·rw[Lib.decDigits_one h,List.foldl_cons,List.foldl_nil,OZ h,Lib.nDigits_small h];simp
  ·rw[zq h,List.foldl_append,ih (u / 10) (by omega),List.foldl_cons,List.foldl_nil,OZ (Nat.mod_lt _ (by omega)),Lib.nDigits_big h]
   congr 1
   show u / 10*10+u % 10=u
   omega
theorem R2 (n:Int):(Lib.itoa n).foldl dst (0,0)=(n.natAbs,Lib.nDigits n.natAbs):=by
 unfold Lib.itoa
 split
 ·rw[List.foldl_cons,show dst (0,0) 45=(0,0) from rfl,O0]
 ·rw[O0,show n.toNat=n.natAbs by omega]
theorem Tv: ∀(l:List UInt8) (p:Nat×Nat),p.1<10 ^ p.2->(l.foldl dst p).1<10 ^ (l.foldl dst p).2
 | [],p,h=>h
 | b::l,p,h=>by
  rw[List.foldl_cons]
  refine Tv l _ ?_
  unfold dst
  split
  ·rename_i k
   show p.1*10+(b.toNat - 48)<10 ^ (p.2+1)
   rw[Nat.pow_succ];omega
  ·exact h
theorem Tw: ∀(l:List UInt8) (p:Nat×Nat),(l.foldl dst p).2<=p.2+l.length
 | [],p=>by simp
 | b::l,p=>by
  rw[List.foldl_cons]
  have:=Tw l (dst p b)
  have h:(dst p b).2<=p.2+1:=by unfold dst;split <;> simp
  rw[ak];omega
end D
namespace D
open Go.RowKit
theorem XL: ∀(k u:Nat),1<=k->u<10 ^ k->Lib.nDigits u<=k
 | 0,u,h,_=>by omega
 | k+1,u,_,h=>by
  by_cases h1:u<10
  ·rw[Lib.nDigits_small h1];omega
  ·rw[Lib.nDigits_big h1]
   rw[Nat.pow_succ] at h
   have hk:1<=k:=by
    rcases k with _ | k
    ·simp at h;omega
    ·omega
   have:=XL k (u / 10) hk (by omega)
   omega
theorem u8W: ∀d:Fin 10,IntKind.i64.wrap (IntKind.u8.wrap (d.val:Int))=(d.val:Int):=by decide
theorem zr {s:ByteArray} {i:Nat} (h:i<s.size):jM s (i:Int)=some (((s.data.toList[i]'(by simpa using h)).toNat:Nat):Int):=by
 unfold jM chk
 rw[if_pos ⟨by omega,by omega⟩]
 simp only[aa]
 rw[show (i:Int).toNat=i by omega,List.getD_eq_getElem?_getD,List.getElem?_eq_getElem (by simpa using h)]
 rfl
def dtk (s:ByteArray) (i:Nat):Nat×Nat:=(s.data.toList.take i).foldl dst (0,0)
theorem O1 (s:ByteArray) (i:Nat):(dtk s i).1<10 ^ (dtk s i).2/\(dtk s i).2<=i:=by
 refine ⟨Tv _ _ (by decide),?_⟩
 have:=Tw (s.data.toList.take i) (0,0)
 rw[aB] at this
 unfold dtk
 omega
theorem V1 (s:ByteArray):az (ic s) aW (0,0,0)=some (.brk (((dtk s (min s.size 11)).1:Int),((dtk s (min s.size 11)).2:Int),((min s.size 11:Nat):Int))):=by
 refine bh (f:=ic s) (fun i=>(((dtk s i).1:Int),((dtk s i).2:Int),(i:Int))) (min s.size 11) (fun i hi=>?_) ?_ (dK _ (by omega))
 ·have h1:i<s.size:=by omega
  have hl:i<s.data.toList.length:=by simpa using h1
  have hd:dtk s (i+1)=dst (dtk s i) (s.data.toList[i]):=by
   unfold dtk
   rw[List.take_succ_eq_append_getElem hl,List.foldl_append];rfl
  obtain ⟨b1,b2⟩:=O1 s i
  have b3:10 ^ (dtk s i).2<=10 ^ 10:=Nat.pow_le_pow_right (by omega) (by omega)
  unfold ic
  simp only[]
  rw[if_pos (decide_eq_true (by omega)),if_pos (decide_eq_true (by omega)),zr h1,hd]
  generalize s.data.toList[i] =b
  generalize dtk s i=p at *
  simp only[aa]
  unfold dst
  by_cases c1:48<=b.toNat
  ·rw[if_pos (decide_eq_true (by omega))]
   by_cases c2:b.toNat<=57
   ·rw[if_pos (decide_eq_true (by omega)),if_pos ⟨c1,c2⟩]
    obtain ⟨d,hd,e⟩: ∃d,d<10/\b.toNat=48+d:=⟨b.toNat - 48,by omega,by omega⟩
    rw[e,show ((48+d:Nat):Int) - 48=(d:Int) by omega,u8W ⟨d,hd⟩]
    simp only[aa]
    rw[fg (n:=(p.1:Int)*10) (by omega) (by omega),fg (by show _<=_+(d:Int);omega) (by show _+(d:Int)<=_;omega),af (by omega),af (by omega)]
    congr 4
    show (p.1:Int)*10+(d:Int)=((p.1*10+(48+d - 48):Nat):Int)
    omega
   ·rw[if_neg (by simp;omega),if_neg (by omega)]
    simp only[aa]
    rw[af (by omega)]
  ·rw[if_neg (by simp;omega),if_neg (by omega)]
   simp only[aa]
   rw[af (by omega)]
 ·unfold ic
  simp only[]
  by_cases h:s.size<=11
  ·rw[Nat.min_eq_left h,if_neg (by simp)]
  ·rw[Nat.min_eq_right (by omega),if_pos (decide_eq_true (by omega)),if_neg (by simp)]
def sgn (s:ByteArray):Int:=if s.data.toList.head? =some 45 then -((dtk s (min s.size 11)).1:Int) else ((dtk s (min s.size 11)).1:Int)
theorem Tx (s:ByteArray):(sgn s).natAbs<10 ^ (dtk s (min s.size 11)).2/\(sgn s).natAbs<10 ^ 11:=by
 obtain ⟨b1,b2⟩:=O1 s (min s.size 11)
 have b3:10 ^ (dtk s (min s.size 11)).2<=10 ^ 11:=Nat.pow_le_pow_right (by omega) (by omega)
 have:(sgn s).natAbs=(dtk s (min s.size 11)).1:=by unfold sgn;split <;> omega
 omega
theorem Tz (s:ByteArray):fN s=if 9<(dtk s (min s.size 11)).2\/10<s.size then some (0,false) else if mkB (Lib.itoa (sgn s))=s then some (sgn s,true) else some (0,false):=by
 have hs:=(Tx s).2
 have hi:I64 (sgn s):=by unfold I64;omega
 obtain ⟨b1,b2⟩:=O1 s (min s.size 11)
 have b3:10 ^ (dtk s (min s.size 11)).2<=10 ^ 11:=Nat.pow_le_pow_right (by omega) (by omega)
 have fin: ∀z:Int,z=sgn s->(if decide (((dtk s (min s.size 11)).2:Int)>9) then (some (0,false)) else (if decide (((s.size:Nat):Int)>10) then (some (0,false)) else ((bY z).bind fun r10=>if r10 !=s then (some (0,false)) else (some (z,true)))):Option (Int×Bool))=if 9<(dtk s (min s.size 11)).2\/10<s.size then some (0,false) else if mkB (Lib.itoa (sgn s))=s then some (sgn s,true) else some (0,false):=by
  rintro z rfl
  by_cases c1:9<(dtk s (min s.size 11)).2
  ·rw[if_pos (decide_eq_true (by omega)),if_pos (Or.inl c1)]
  ·rw[if_neg (by simp;omega)]
   by_cases c2:10<s.size
   ·rw[if_pos (decide_eq_true (by omega)),if_pos (Or.inr c2)]
   ·rw[if_neg (by simp;omega),if_neg (by omega),tl hi,aa]
    by_cases c3:mkB (Lib.itoa (sgn s))=s
    ·rw[if_pos c3,if_neg (by simp[c3])]
    ·rw[if_neg c3,if_pos (by simpa using c3)]
 unfold fN
 rw[ax (V1 s)]
 simp only[]
 by_cases h0:0<s.size
 ·rw[if_pos (decide_eq_true (by omega))]
  have hl:0<s.data.toList.length:=by simpa using h0
  have e0:jM s 0=some (((s.data.toList[0]).toNat:Nat):Int):=zr (i:=0) h0
  have eh:s.data.toList.head? =some s.data.toList[0]:=by rw[List.head?_eq_getElem?,List.getElem?_eq_getElem hl]
  rw[e0,aa]
  by_cases c:s.data.toList[0] =45
  ·rw[if_pos (by rw[c];rfl),aa,fg (by omega) (by omega)]
   exact fin _ (by unfold sgn;rw[eh,if_pos (by rw[c])])
  ·have hn:(s.data.toList[0]).toNat≠45:=fun e=>c (UInt8.toNat_inj.1 e)
   rw[if_neg (fun e=>hn (by have:=eq_of_beq e;omega)),aa]
   exact fin _ (by unfold sgn;rw[eh,if_neg (by simpa using c)])
 ·rw[if_neg (by rw[decide_eq_true_eq];omega)]
  have he:s.data.toList.head? =none:=by
   have:s.data.toList= []:=List.eq_nil_of_length_eq_zero (by
    have:s.data.toList.length=s.size:=by simp
    omega)
   rw[this];rfl
  exact fin _ (by unfold sgn;rw[he,if_neg (by simp)])
theorem R3 {n:Int} (h: -999999999<=n/\n<=999999999):Lib.nDigits n.natAbs<=9/\(Lib.itoa n).length<=10:=by
 have k:Lib.nDigits n.natAbs<=9:=XL 9 _ (by omega) (by omega)
 refine ⟨k,?_⟩
 unfold Lib.itoa
 split
 ·rw[ak,Lib.decDigits_length];omega
 ·rw[Lib.decDigits_length,show n.toNat=n.natAbs by omega];omega
theorem O2 (n:Int):((Lib.itoa n).head? =some 45)↔n<0:=by
 unfold Lib.itoa
 split
 ·rename_i h;simp[h]
 ·rename_i h
  obtain ⟨d,r,hd,e⟩:=Kl n.toNat
  rw[e]
  have:=(IR hd).1
  simp only[List.head?_cons,Option.some.injEq]
  constructor
  ·intro k;rw[k] at this;simp at this
  ·intro k;omega
theorem Ey {n:Int} (h: -999999999<=n/\n<=999999999):fN (mkB (Lib.itoa n))=some (n,true)/\fP (mkB (Lib.itoa n))=some (n,true):=by
 obtain ⟨h9,h10⟩:=R3 h
 constructor
 ·have ed:dtk (mkB (Lib.itoa n)) (min (mkB (Lib.itoa n)).size 11)=(n.natAbs,Lib.nDigits n.natAbs):=by
   unfold dtk
   rw[eZ,bO,Nat.min_eq_left (by omega),List.take_length,R2]
  have es:sgn (mkB (Lib.itoa n))=n:=by
   unfold sgn
   rw[ed,eZ]
   by_cases c:n<0
   ·rw[if_pos ((O2 n).2 c)];show -(n.natAbs:Int)=n;omega
   ·rw[if_neg fun k=>c ((O2 n).1 k)];show (n.natAbs:Int)=n;omega
  rw[Tz,ed,es,bO,if_neg (by show¬(9<Lib.nDigits n.natAbs\/_);omega),if_pos rfl]
 ·unfold fP R.rI
  rw[bO,eZ,if_neg (by omega),OY]
  show (if _ then _ else _)=_
  rw[if_pos ⟨rfl,h.1,h.2⟩]
theorem Km {s:ByteArray} (h: ¬ ∃n:Int,(-999999999<=n/\n<=999999999)/\s=mkB (Lib.itoa n)):fN s=some (0,false)/\fP s=some (0,false):=by
 constructor
 ·rw[Tz]
  by_cases c:9<(dtk s (min s.size 11)).2\/10<s.size
  ·rw[if_pos c]
  ·rw[if_neg c,if_neg]
   intro e
   have b1:=(Tx s).1
   have b3:10 ^ (dtk s (min s.size 11)).2<=10 ^ 9:=Nat.pow_le_pow_right (by omega) (by omega)
   exact h ⟨sgn s,by omega,e.symm⟩
 ·unfold fP R.rI
  by_cases c:10<s.size
  ·rw[if_pos c]
  ·rw[if_neg c]
   cases ha:Lib.atoi s.data.toList with
   | none=>rfl
   | some n =>
    show (if _ then _ else _)=_
    rw[if_neg fun k=>h ⟨n,k.2,k.1.symm⟩]
theorem qC (s:ByteArray): ∃r:Int×Bool,fN s=some r/\fP s=some r/\((r.2=true/\(-999999999<=r.1/\r.1<=999999999)/\s=mkB (Lib.itoa r.1))\/r=(0,false)):=by
 by_cases h: ∃n:Int,(-999999999<=n/\n<=999999999)/\s=mkB (Lib.itoa n)
 ·obtain ⟨n,hn,rfl⟩:=h
  exact ⟨_,(Ey hn).1,(Ey hn).2,.inl ⟨rfl,hn,rfl⟩⟩
 ·exact ⟨_,(Km h).1,(Km h).2,.inr rfl⟩
end D
namespace D
open Go.RowKit
abbrev AutT:=Int×(List Bool)×(List (List Int))
structure VA (a:AutT) (n:Nat):Prop where
 len:a.2.1.length=n
 start:0<=a.1/\a.1<n
 nlen:a.2.2.length=n
 row: ∀r∈a.2.2,r.length=9
 ent: ∀r∈a.2.2,∀t∈r,-1<=t/\t<n
def mv (a:AutT) (s:Int) (k:Nat):Int:=nth (nth a.2.2 s) k
theorem O3 (x l h:Int):cN x l h=some (decide (l<=x/\x<=h)):=by
 unfold cN
 by_cases c:l<=x
 ·simp[c]
 ·have: ¬l<=x/\True:=⟨c,trivial⟩
  simp[c]
theorem IS (x l h:Int):bZ x l h=some (decide (l<=x/\x<=h)):=by
 unfold bZ
 by_cases c:l<=x
 ·simp[c]
 ·simp[c]
theorem scan {α R:Type} [Inhabited α] {f:Int->Option (Out R Int)} (xs:List α) (p:α->Prop) [DecidablePred p] (r:R) (hN:xs.length<=9223372036854775807)
  (h: ∀i:Nat,i<xs.length->f (i:Int)=some (if p (nth xs i) then .nxt ((i+1:Nat):Int) else .ret r)) (he:f (xs.length:Int)=some (.brk (xs.length:Int))) :
  (az f aW 0=some (.brk (xs.length:Int))/\ ∀x∈xs,p x)\/(az f aW 0=some (.ret r)/\ ¬ ∀x∈xs,p x):=by
 obtain ⟨o,e,hq⟩:=cV (f:=f) (fun i s=>s=(i:Int)/\ ∀j:Nat,j<i->p (nth xs j)) (fun o=>(o= .brk (xs.length:Int)/\ ∀x∈xs,p x)\/(o= .ret r/\ ¬ ∀x∈xs,p x)) xs.length (s:=0) (by
  rintro i s hi ⟨rfl,hp⟩
  by_cases hl:i<xs.length
  ·by_cases c:p (nth xs i)
   ·refine .inl ⟨hl,_,by rw[h i hl,if_pos c],rfl,fun j hj=>?_⟩
    by_cases e:j=i
    ·subst e;exact c
    ·exact hp j (by omega)
   ·refine .inr ⟨_,by rw[h i hl,if_neg c],(fun s' e=>by cases e),.inr ⟨rfl,fun hx=>c (hx _ (cv (by omega) (by omega)))⟩⟩
  ·obtain rfl:i=xs.length:=by omega
   refine .inr ⟨_,he,(fun s' e=>by cases e),.inl ⟨rfl,fun x hx=>?_⟩⟩
   obtain ⟨j,hj,rfl⟩:=IL hx
   exact hp j hj) ⟨rfl,by omega⟩ (ub hN)
 rcases hq with ⟨rfl,hq⟩ | ⟨rfl,hq⟩
 ·exact .inl ⟨e,hq⟩
 ·exact .inr ⟨e,hq⟩
section
variable {a:AutT} {n:Nat} (V:VA a n)
include V
theorem VA.pos:0<n:=by have:=V.start;omega
theorem VA.rowAt {s:Int} (h0:0<=s) (h1:s<n):(nth a.2.2 s).length=9:=V.row _ (cv h0 (by rw[V.nlen];exact h1))
theorem VA.mv {s:Int} {k:Nat} (h0:0<=s) (h1:s<n) (hk:k<9): -1<=mv a s k/\mv a s k<n:=
 V.ent _ (cv h0 (by rw[V.nlen];exact h1)) _ (cv (by omega) (by rw[V.rowAt h0 h1];omega))
theorem VA.get {s:Int} (h0:0<=s) (h1:s<n):aQ a.2.2 s=some (nth a.2.2 s):=aG h0 (by rw[V.nlen];exact h1)
theorem VA.get2 {s:Int} {k:Nat} (h0:0<=s) (h1:s<n) (hk:k<9):aQ (nth a.2.2 s) (k:Int)=some (D.mv a s k):=aG (by omega) (by rw[V.rowAt h0 h1];omega)
theorem VA.acc {s:Int} (h0:0<=s) (h1:s<n):aQ a.2.1 s=some (nth a.2.1 s):=aG h0 (by rw[V.len];exact h1)
theorem XM {s:Int} {k:Nat} (h0:0<=s) (h1:s<n) (hk:k<9):eQ a s (k:Int)=some (mv a s k):=by
 unfold eQ jW
 rw[if_neg (by simp;omega),IS];simp only[aa]
 rw[if_pos (by simp;omega),V.get h0 h1];simp only[aa]
 rw[V.get2 h0 h1 hk];rfl
end
end D
namespace D
open Go.RowKit
theorem Ez (s:ByteArray):fM s=jY s:=by
 have e:fH s=nH s:=by
  funext p
  unfold fH nH
  rw[Int.mul_comm p.1 257]
 unfold fM jY
 rw[e]
theorem GZ (s:ByteArray) (h:s.size<=9223372036854775806): ∃r:Int,fM s=some r/\jY s=some r/\0<=r/\r<=9972:=by
 obtain ⟨p,e,h1,h2,h3⟩:=nY (f:=fH s) (fun i p=>p.2=(i:Int)/\0<=p.1/\p.1<=9972) s.size (fun i p hi hI=>by
  obtain ⟨n,j⟩:=p
  obtain ⟨h1,h2,h3⟩:=hI
  simp only at h1 h2 h3
  subst h1
  unfold fH
  simp only[]
  rw[if_pos (decide_eq_true (by omega)),zr hi]
  simp only[aa]
  generalize s.data.toList[i] =b
  have hb:b.toNat<256:=b.toNat_lt
  rw[fg (n:=((b.toNat:Nat):Int)) (by omega) (by omega),fg (n:=n*257) (by omega) (by omega),fg (n:=n*257+(b.toNat:Int)) (by omega) (by omega),fg (n:=n*257+(b.toNat:Int)+1) (by omega) (by omega),af (by omega)]
  refine ⟨_,rfl,rfl,?_,?_⟩
  ·exact Int.tmod_nonneg _ (by omega)
  ·have:Int.tmod (n*257+(b.toNat:Int)+1) 9973<9973:=Int.tmod_lt_of_pos _ (by decide)
   show Int.tmod (n*257+(b.toNat:Int)+1) 9973<=9972
   omega) (fun p hI=>by
  obtain ⟨n,j⟩:=p
  obtain ⟨h1,-⟩:=hI
  simp only at h1
  subst h1
  unfold fH
  simp only[]
  rw[if_neg (by simp)]) (s:=(1,0)) ⟨rfl,by decide,by decide⟩ (dK _ (by omega))
 have k:fM s=some p.1:=by
  unfold fM
  rw[ax e]
 exact ⟨p.1,k,by rw[<-Ez];exact k,h2,h3⟩
def edOk (e:Int×Int×Int×Int):Prop:=(1<=e.1/\e.1<=99)/\(0<=e.2.1/\e.2.1<=4)/\(0<=e.2.2.1/\e.2.2.1<=4)/\(0<=e.2.2.2/\e.2.2.2<=2)
instance (e:Int×Int×Int×Int):Decidable (edOk e):=inferInstanceAs (Decidable (_/\_))
def sC (e:Int×Int×Int×Int):List UInt8:=Lib.itoa e.1++ [58] ++Lib.itoa e.2.1++ [UInt8.ofNat (97+e.2.2.2.toNat)] ++Lib.itoa e.2.2.1
theorem R4: ∀k:Fin 3,eH (IntKind.i64.wrap (2*(k.val:Int)))=some (mkB [UInt8.ofNat (97+k.val)]):=by
 intro k
 match k with
 | ⟨0,_⟩=>rfl
 | ⟨1,_⟩=>rfl
 | ⟨2,_⟩=>rfl
theorem R5: ∀k:Fin 3,rj (⟨#[97,98,99]⟩) (k.val:Int) (IntKind.i64.wrap ((k.val:Int)+1))=some (mkB [UInt8.ofNat (97+k.val)]):=by
 intro k
 match k with
 | ⟨0,_⟩=>rfl
 | ⟨1,_⟩=>rfl
 | ⟨2,_⟩=>rfl
theorem O4 (e:Int×Int×Int×Int):jg e=some (if edOk e then mkB (sC e) else mkB []):=by
 unfold jg
 rw[O3,O3,O3,O3]
 simp only[aa]
 by_cases h:edOk e
 ·obtain ⟨h1,h2,h3,h4⟩:=h
  rw[if_pos (decide_eq_true h1),if_pos (decide_eq_true h2),if_pos (decide_eq_true h3),if_pos (decide_eq_true h4),if_pos ⟨h1,h2,h3,h4⟩]
  have i1:I64 e.1:=by unfold I64;omega
  have i2:I64 e.2.1:=by unfold I64;omega
  have i3:I64 e.2.2.1:=by unfold I64;omega
  have n1:=rh i1
  have n2:=rh i2
  have n3:=rh i3
  obtain ⟨k,hk,ek⟩: ∃k:Nat,k<3/\e.2.2.2=(k:Int):=⟨e.2.2.2.toNat,by omega,by omega⟩
  rw[tl i1,tl i2,tl i3,ek,R4 ⟨k,hk⟩]
  simp only[aa]
  have c1:mq (mkB (Lib.itoa e.1)) (⟨#[58]⟩)=some (mkB (Lib.itoa e.1++ [58])):=Ex _ [58] (by simp;omega)
  rw[c1]
  simp only[aa]
  rw[Ex _ _ (by simp;omega)]
  simp only[aa]
  rw[Ex _ _ (by simp;omega)]
  simp only[aa]
  rw[Ex _ _ (by simp;omega)]
  simp only[aa]
  unfold sC
  rw[ek];rfl
 ·rw[if_neg h]
  split
  ·split
   ·split
    ·split
     ·rename_i a b c d
      exact absurd ⟨of_decide_eq_true a,of_decide_eq_true b,of_decide_eq_true c,of_decide_eq_true d⟩ h
     ·rfl
    ·rfl
   ·rfl
  ·rfl
theorem O5 (e:Int×Int×Int×Int):jk e=some (if edOk e then mkB (sC e) else mkB []):=by
 have h5:IntKind.i64.wrap (5 - 1)=4:=by decide
 have hok:jV (e.1,e.2.1,e.2.2.1,e.2.2.2) 5=some (decide (edOk e)):=by
  unfold jV
  rw[h5,IS,IS,IS,IS]
  simp only[aa]
  by_cases h1:1<=e.1/\e.1<=99
  ·rw[if_pos (decide_eq_true h1)]
   by_cases h2:0<=e.2.1/\e.2.1<=4
   ·rw[if_pos (decide_eq_true h2)]
    by_cases h3:0<=e.2.2.1/\e.2.2.1<=4
    ·rw[if_pos (decide_eq_true h3)]
     congr 1
     exact decide_eq_decide.2 ⟨fun h4=>⟨h1,h2,h3,h4⟩,fun h=>h.2.2.2⟩
    ·rw[if_neg (by simpa using h3),decide_eq_false (fun h:edOk e=>h3 h.2.2.1)]
   ·rw[if_neg (by simpa using h2),decide_eq_false (fun h:edOk e=>h2 h.2.1)]
  ·rw[if_neg (by simpa using h1),decide_eq_false (fun h:edOk e=>h1 h.1)]
 unfold jk
 rw[hok]
 simp only[aa]
 by_cases h:edOk e
 ·rw[if_pos (decide_eq_true h),if_pos h]
  obtain ⟨h1,h2,h3,h4⟩:=h
  have i1:I64 e.1:=by unfold I64;omega
  have i2:I64 e.2.1:=by unfold I64;omega
  have i3:I64 e.2.2.1:=by unfold I64;omega
  have n1:=rh i1
  have n2:=rh i2
  have n3:=rh i3
  obtain ⟨k,hk,ek⟩: ∃k:Nat,k<3/\e.2.2.2=(k:Int):=⟨e.2.2.2.toNat,by omega,by omega⟩
  rw[wo i1,wo i2,wo i3,ek,R5 ⟨k,hk⟩]
  simp only[aa]
  have c1:mq (mkB (Lib.itoa e.1)) (⟨#[58]⟩)=some (mkB (Lib.itoa e.1++ [58])):=Ex _ [58] (by simp;omega)
  rw[c1]
  simp only[aa]
  rw[Ex _ _ (by simp;omega)]
  simp only[aa]
  rw[Ex _ _ (by simp;omega)]
  simp only[aa]
  rw[Ex _ _ (by simp;omega)]
  simp only[aa]
  unfold sC
  rw[ek];rfl
 ·rw[if_neg (by simpa using h),if_neg h];rfl
end D
namespace D
open Go.RowKit
abbrev ChT:Type:=Bool×Int×Int×Int×Int
def o7 (c:ChT):List UInt8:=(if c.1 then 43 else 45)::sC c.2
def btx (l:List ChT):List UInt8:=Lib.join (l.map o7) [32]
def zt (l:List ChT):Prop:= ∀c,c∈l->edOk c.2
theorem tm {e:Int×Int×Int×Int} (h:edOk e):(sC e).length<=70:=by
 obtain ⟨h1,h2,h3,h4⟩:=h
 have n1:=rh (n:=e.1) (by unfold I64;omega)
 have n2:=rh (n:=e.2.1) (by unfold I64;omega)
 have n3:=rh (n:=e.2.2.1) (by unfold I64;omega)
 unfold sC
 simp only[aq,ak,aF];omega
theorem O6 (e:Int×Int×Int×Int):(mkB (sC e)==(⟨#[]⟩:ByteArray))=false:=by
 rw[beq_eq_false_iff_ne]
 intro k
 have:=congrArg ByteArray.size k
 rw[bO] at this
 unfold sC at this
 simp only[aq,ak,aF] at this
 have e0:(⟨#[]⟩:ByteArray).size=0:=rfl
 omega
theorem O7: ∀(r:List ChT),zt r->(Lib.joinTail [32] (r.map o7)).length<=72*r.length
 | [],_=>by simp[Lib.joinTail]
 | c::r,h=>by
  have h1:=O7 r fun q hq=>h q (bf _ hq)
  have h2:=tm (h c (by simp))
  have e:Lib.joinTail [32] ((c::r).map o7)=([32] ++o7 c)++Lib.joinTail [32] (r.map o7):=by simp[Lib.joinTail]
  rw[e,aq,aq,ak]
  unfold o7
  simp only[ak,aF]
  unfold o7 at h1
  omega
theorem EA {l:List ChT} (h:zt l):(btx l).length<=72*l.length:=by
 cases l with
 | nil=>simp[btx,Lib.join_nil]
 | cons c r =>
  have h1:=O7 r fun q hq=>h q (bf _ hq)
  have h2:=tm (h c (by simp))
  unfold btx
  rw[List.map_cons,Lib.join_cons,aq,ak]
  have:(o7 c).length=(sC c.2).length+1:=by unfold o7;rw[ak]
  omega
theorem R6 {l:List ChT} {i:Nat} (hi:i<l.length):btx (l.take (i+1))=if i=0 then o7 l[i] else btx (l.take i)++ [32] ++o7 l[i]:=by
 unfold btx
 rw[List.take_succ_eq_append_getElem hi,aO,List.map_cons,List.map_nil,OW]
 by_cases h:i=0
 ·subst h;rw[if_pos (by simp),if_pos rfl]
 ·rw[if_neg (by
   intro e
   have:=congrArg List.length e
   rw[List.length_map,aB,aF] at this
   omega),if_neg h]
theorem G0 {l:List ChT} {i:Nat} (hi:i<l.length) (h:zt (l.take i)) (k:edOk l[i].2):zt (l.take (i+1)):=by
 rw[List.take_succ_eq_append_getElem hi]
 intro c hc
 rcases aI hc with hc | hc
 ·exact h c hc
 ·obtain rfl:=aw hc;exact k
theorem V2 {l:List ChT} (hl:l.length<=6):(zt l/\az (eS l) aW (([] :List ByteArray),0)=some (.brk (l.map (fun c=>mkB (o7 c)),(l.length:Int))))\/(¬zt l/\az (eS l) aW (([] :List ByteArray),0)=some (.ret (mkB []))):=by
 obtain ⟨o,e,hQ⟩:=cV (f:=eS l) (fun i s=>s=((l.take i).map (fun c=>mkB (o7 c)),(i:Int))/\zt (l.take i)) (fun o=>(zt l/\o= .brk (l.map (fun c=>mkB (o7 c)),(l.length:Int)))\/(¬zt l/\o= .ret (mkB []))) l.length (fun i s hi hI=>by
  obtain ⟨rfl,hb⟩:=hI
  unfold eS
  simp only[]
  by_cases h1:i<l.length
  ·rw[bM h1,if_pos rfl,aE h1]
   simp only[aa]
   rw[O5]
   simp only[aa]
   by_cases k:edOk l[i].2
   ·have n1:=tm k
    have c1:mq (⟨#[43]⟩) (mkB (sC l[i].2))=some (mkB (43::sC l[i].2)):=Ex [43] _ (by simp;omega)
    have c2:mq (⟨#[45]⟩) (mkB (sC l[i].2))=some (mkB (45::sC l[i].2)):=Ex [45] _ (by simp;omega)
    have hx: ∀z:ByteArray,b9 16 ((l.take i).map (fun c=>mkB (o7 c))) [z] =some ((l.take i).map (fun c=>mkB (o7 c))++ [z]):=fun z=>aL (by rw[List.length_map,aB];simp only[ak,aF];omega)
    refine .inl ⟨h1,((l.take (i+1)).map (fun c=>mkB (o7 c)),((i+1:Nat):Int)),?_,rfl,G0 h1 hb k⟩
    rw[if_pos k,if_neg (by rw[O6];decide),c1,c2]
    simp only[aa]
    rw[hx,hx,List.take_succ_eq_append_getElem h1,aO,List.map_cons,List.map_nil,<-af (show i<9223372036854775807 by omega)]
    have ec:o7 l[i] =(if l[i].1=true then 43 else 45)::sC l[i].2:=rfl
    rw[ec]
    generalize l[i].1=t
    cases t <;> rfl
   ·refine .inr ⟨.ret (mkB []),?_,fun s' h=>(by simp at h),.inr ⟨fun h=>k (h _ (List.getElem_mem h1)),rfl⟩⟩
    rw[if_neg k];rfl
  ·obtain rfl:i=l.length:=by omega
   rw[List.take_length] at hb
   refine .inr ⟨_,by rw[bq];rfl,fun s' h=>(by simp at h),.inl ⟨hb,by rw[List.take_length]⟩⟩) (s:=([],0)) ⟨rfl,fun c hc=>by simp at hc⟩ (dK _ (by omega))
 rcases hQ with ⟨h,rfl⟩ | ⟨h,rfl⟩
 ·exact .inl ⟨h,e⟩
 ·exact .inr ⟨h,e⟩
theorem V3 {l:List ChT} (hl:l.length<=6):(zt l/\az (eN l) aW ((⟨#[]⟩:ByteArray),0)=some (.brk (mkB (btx l),(l.length:Int))))\/(¬zt l/\az (eN l) aW ((⟨#[]⟩:ByteArray),0)=some (.ret (mkB []))):=by
 obtain ⟨o,e,hQ⟩:=cV (f:=eN l) (fun i s=>s=(mkB (btx (l.take i)),(i:Int))/\zt (l.take i)) (fun o=>(zt l/\o= .brk (mkB (btx l),(l.length:Int)))\/(¬zt l/\o= .ret (mkB []))) l.length (fun i s hi hI=>by
  obtain ⟨rfl,hb⟩:=hI
  have hn:=EA hb
  rw[aB] at hn
  unfold eN
  simp only[]
  by_cases h1:i<l.length
  ·rw[bM h1,if_pos rfl,aE h1]
   simp only[aa]
   rw[O4]
   simp only[aa]
   by_cases k:edOk l[i].2
   ·have n1:=tm k
    refine .inl ⟨h1,(mkB (btx (l.take (i+1))),((i+1:Nat):Int)),?_,rfl,G0 h1 hb k⟩
    rw[if_pos k,if_neg (by rw[O6];decide),R6 h1,<-af (show i<9223372036854775807 by omega)]
    have ec:o7 l[i] =(if l[i].1=true then 43 else 45)::sC l[i].2:=rfl
    rw[ec]
    generalize l[i].1=t
    have g1: ∀(a:List UInt8) (b:UInt8),a.length<=1000->mq (mkB a) (mkB [b])=some (mkB (a++ [b])):=fun a b ha=>Ex _ _ (by simp;omega)
    have g2: ∀(a:List UInt8) (b:UInt8),a.length<=1000->mq (mkB (a++ [b])) (mkB (sC l[i].2))=some (mkB (a++b::sC l[i].2)):=fun a b ha=>by
     rw[Ex _ _ (by simp;omega),ai];rfl
    by_cases h0:i=0
    ·subst h0
     have eb:btx (l.take 0)= []:=rfl
     have q1:=g1 [] 43 (by simp)
     have q2:=g1 [] 45 (by simp)
     have q3:=g2 [] 43 (by simp)
     have q4:=g2 [] 45 (by simp)
     have l1:(⟨#[43]⟩:ByteArray)=mkB [43]:=rfl
     have l2:(⟨#[45]⟩:ByteArray)=mkB [45]:=rfl
     rw[eb,if_pos rfl,if_neg (by simp)]
     simp only[aa]
     rw[l1,l2,q1,q2]
     simp only[aa]
     rw[q3,q4]
     cases t <;> rfl
    ·have hs:=g1 (btx (l.take i)) 32 (by omega)
     have q1:=g1 (btx (l.take i)++ [32]) 43 (by simp;omega)
     have q2:=g1 (btx (l.take i)++ [32]) 45 (by simp;omega)
     have q3:=g2 (btx (l.take i)++ [32]) 43 (by simp;omega)
     have q4:=g2 (btx (l.take i)++ [32]) 45 (by simp;omega)
     have l1:(⟨#[43]⟩:ByteArray)=mkB [43]:=rfl
     have l2:(⟨#[45]⟩:ByteArray)=mkB [45]:=rfl
     have l3:(⟨#[32]⟩:ByteArray)=mkB [32]:=rfl
     rw[if_neg h0,if_pos (decide_eq_true (by omega)),l1,l2,l3,hs]
     simp only[aa]
     rw[q1,q2]
     simp only[aa]
     rw[q3,q4]
     cases t <;> rfl
   ·refine .inr ⟨.ret (mkB []),?_,fun s' h=>(by simp at h),.inr ⟨fun h=>k (h _ (List.getElem_mem h1)),rfl⟩⟩
    rw[if_neg k];rfl
  ·obtain rfl:i=l.length:=by omega
   rw[List.take_length] at hb
   refine .inr ⟨_,by rw[bq];rfl,fun s' h=>(by simp at h),.inl ⟨hb,by rw[List.take_length]⟩⟩) (s:=((⟨#[]⟩:ByteArray),0)) ⟨rfl,fun c hc=>by simp at hc⟩ (dK _ (by omega))
 rcases hQ with ⟨h,rfl⟩ | ⟨h,rfl⟩
 ·exact .inl ⟨h,e⟩
 ·exact .inr ⟨h,e⟩
open Classical in
theorem tn (l:List ChT):cP l=some (if l.length<=6/\zt l then mkB (btx l) else mkB [])/\dS l=some (if l.length<=6/\zt l then mkB (btx l) else mkB []):=by
 unfold cP dS
 by_cases h6:l.length<=6
 ·have hd: ¬decide ((l.length:Int)>6)=true:=by rw[decide_eq_true_eq];omega
  constructor
  ·rw[if_neg hd]
   rcases V3 h6 with ⟨h,e⟩ | ⟨h,e⟩
   ·rw[ax e,if_pos ⟨h6,h⟩]
   ·rw[cJ e,if_neg fun k=>h k.2]
  ·rw[if_neg hd]
   rcases V2 h6 with ⟨h,e⟩ | ⟨h,e⟩
   ·have hn:=EA h
    rw[ax e,if_pos ⟨h6,h⟩]
    show (jx (l.map fun p=>mkB (o7 p)) (mkB [32])).bind _=_
    unfold jx R.RJ chk
    have e:(l.map fun p=>mkB (o7 p)).map (·.data.toList)=l.map o7:=by
     rw[List.map_map]
     exact List.map_congr_left fun p _=>eZ _
    rw[e,eZ,List.length_map,if_pos ⟨by omega,by show (btx l).length<=_;omega⟩];rfl
   ·rw[cJ e,if_neg fun k=>h k.2]
 ·have hd:decide ((l.length:Int)>6)=true:=decide_eq_true (by omega)
  constructor
  ·rw[if_pos hd,if_neg fun k=>h6 k.1];rfl
  ·rw[if_pos hd,if_neg fun k=>h6 k.1];rfl
end D
namespace D
open Go.RowKit
theorem Bo (v:Int) (l:List ChT): ∃r:ByteArray,eI v l=some r/\gy v l=some r/\r.size<=1000:=by
 obtain ⟨es,ei⟩:=tn l
 obtain ⟨t,et,hn⟩: ∃t:List UInt8,(cP l=some (mkB t)/\dS l=some (mkB t))/\t.length<=432:=by
  by_cases h:l.length<=6/\zt l
  ·have:=EA h.2
   refine ⟨btx l,⟨?_,?_⟩,by omega⟩
   ·rw[es,if_pos h]
   ·rw[ei,if_pos h]
  ·refine ⟨[],⟨?_,?_⟩,by simp⟩
   ·rw[es,if_neg h]
   ·rw[ei,if_neg h]
 obtain ⟨e1,e2⟩:=et
 unfold eI gy
 rw[e1,e2,O3,IS]
 simp only[aa]
 by_cases hv:1<=v/\v<=999
 ·have iv:I64 v:=by unfold I64;omega
  have nv:=rh iv
  have c1:mq (mkB (Lib.itoa v)) (⟨#[59]⟩)=some (mkB (Lib.itoa v++ [59])):=Ex _ [59] (by simp;omega)
  have c2:mq (mkB (Lib.itoa v++ [59])) (mkB t)=some (mkB (Lib.itoa v++ [59] ++t)):=Ex _ _ (by simp;omega)
  have c3:mq (mkB (Lib.itoa v++ [59] ++t)) (⟨#[59]⟩)=some (mkB (Lib.itoa v++ [59] ++t++ [59])):=Ex _ [59] (by simp;omega)
  obtain ⟨q,k1,k2,q1,q2⟩:=GZ (mkB (Lib.itoa v++ [59] ++t++ [59])) (by rw[bO];simp;omega)
  have iq:I64 q:=by unfold I64;omega
  have nq:=rh iq
  have c4:mq (mkB (Lib.itoa v++ [59] ++t++ [59])) (mkB (Lib.itoa q))=some (mkB (Lib.itoa v++ [59] ++t++ [59] ++Lib.itoa q)):=Ex _ _ (by simp;omega)
  have c5:mq (mkB (Lib.itoa v++ [59] ++t++ [59] ++Lib.itoa q)) (⟨#[10]⟩)=some (mkB (Lib.itoa v++ [59] ++t++ [59] ++Lib.itoa q++ [10])):=Ex _ [10] (by simp;omega)
  have hs:(mkB (Lib.itoa v++ [59] ++t++ [59] ++Lib.itoa q++ [10])).size<=1000:=by rw[bO];simp;omega
  have h0:((⟨#[]⟩:ByteArray)).size<=1000:=by decide
  rw[decide_eq_true hv]
  simp only[if_true,tl iv,wo iv,tl iq,wo iq,c1,c2,c3,k1,k2,c4,c5,aa]
  by_cases a:decide ((l.length:Int)>0)=true
  ·by_cases b:(mkB t==(⟨#[]⟩:ByteArray))=true
   ·simp only[if_pos a,if_pos b];exact ⟨_,rfl,rfl,h0⟩
   ·simp only[if_pos a,if_neg b];exact ⟨_,rfl,rfl,hs⟩
  ·by_cases b:(mkB t==(⟨#[]⟩:ByteArray))=true
   ·simp only[if_neg a,if_pos b];exact ⟨_,rfl,rfl,hs⟩
   ·simp only[if_neg a,if_neg b];exact ⟨_,rfl,rfl,hs⟩
 ·rw[decide_eq_false hv]
  exact ⟨_,rfl,rfl,by decide⟩
end D
namespace D
open Go.RowKit
def o8 (c:UInt8) (cur:List UInt8):List UInt8->List (List UInt8)
 | [] =>[cur]
 | b::l=>if b=c then cur::o8 c [] l else o8 c (cur++ [b]) l
theorem n7 {c:UInt8} : ∀ {l cur:List UInt8},c∉l->o8 c cur l= [cur++l]
 | [],cur,_=>by simp[o8]
 | b::l,cur,h=>by
  have hb:b≠c:=fun e=>h (by simp[e])
  rw[o8,if_neg hb,n7 fun k=>h (bf _ k)]
  simp
theorem qD {c:UInt8} : ∀ {a cur r:List UInt8},c∉a->o8 c cur (a++c::r)=(cur++a)::o8 c [] r
 | [],cur,r,_=>by simp[o8]
 | b::a,cur,r,h=>by
  have hb:b≠c:=fun e=>h (by simp[e])
  rw[List.cons_append,o8,if_neg hb,qD fun k=>h (bf _ k)]
  simp
theorem EB (c:UInt8): ∀(l cur:List UInt8),(o8 c cur l).length<=l.length+1
 | [],cur=>by simp[o8]
 | b::l,cur=>by
  rw[o8]
  split
  ·have:=EB c l [];simp only[ak];omega
  ·have:=EB c l (cur++ [b]);simp only[ak];omega
theorem sD (c:UInt8): ∀(l cur:List UInt8),∀x∈o8 c cur l,x.length<=cur.length+l.length
 | [],cur,x,h=>by simp[o8] at h;subst h;simp
 | b::l,cur,x,h=>by
  rw[o8] at h
  split at h
  ·rcases aA h with rfl | h
   ·simp
   ·have:=sD c l [] x h;simp at this;simp;omega
  ·have:=sD c l _ x h;simp at this;simp;omega
theorem tq (c:UInt8) (l:List UInt8):c∉l\/ ∃a r,l=a++c::r/\c∉a:=by
 by_cases h:c∈l
 ·obtain ⟨a,r,e,k⟩:=List.eq_append_cons_of_mem h
  exact .inr ⟨a,r,e,k⟩
 ·exact .inl h
theorem EC (s:ByteArray):mkB s.data.toList=s:=by simp[mkB]
theorem XN (s:ByteArray): ∃l:List UInt8,s=mkB l:=⟨_,(EC s).symm⟩
theorem xC {a b:List UInt8} (h:mkB a=mkB b):a=b:=by rw[<-eZ a,h,eZ]
theorem slB {l:List UInt8} {a b:Nat} (h1:a<=b) (h2:b<=l.length):rj (mkB l) (a:Int) (b:Int)=some (mkB ((l.take b).drop a)):=by
 unfold rj chk
 rw[bO,if_pos ⟨by omega,by omega,by omega⟩,aa]
 congr 1
 refine ByteArray.ext ?_
 simp[mkB,List.drop_take]
theorem atB {l:List UInt8} {i:Nat} (h:i<l.length):jM (mkB l) (i:Int)=some ((l[i].toNat:Nat):Int):=by
 rw[zr (by rw[bO];exact h)]
 simp[mkB]
theorem wq (l:List UInt8) (c:UInt8) (hl:l.length<=1000000):hZ (mkB l) ((c.toNat:Nat):Int)=some ((o8 c [] l).map mkB):=by
 obtain ⟨s,e,fr,done,rfl,h1,h2,h3⟩:=nY (f:=ox (mkB l) ((c.toNat:Nat):Int)) (fun i s=> ∃(fr:Nat) (done:List (List UInt8)),s=(done.map mkB,(fr:Int),(i:Int))/\fr<=i/\done.length<=i/\done++o8 c ((l.take i).drop fr) (l.drop i)=o8 c [] l) l.length (fun i s hi hI=>by
  obtain ⟨fr,done,rfl,h1,h2,h3⟩:=hI
  unfold ox
  simp only[]
  rw[if_pos (decide_eq_true (by rw[bO];omega)),atB hi]
  simp only[aa]
  rw[List.drop_eq_getElem_cons hi,o8] at h3
  by_cases k:l[i] =c
  ·rw[if_pos k] at h3
   rw[if_pos (by rw[k];simp),slB h1 (by omega)]
   simp only[aa]
   have hx:b9 16 (done.map mkB) [mkB ((l.take i).drop fr)] =some (done.map mkB++ [mkB ((l.take i).drop fr)]):=aL (by rw[List.length_map];simp only[ak,aF];omega)
   rw[hx]
   simp only[aa]
   refine ⟨_,rfl,i+1,done++ [(l.take i).drop fr],?_,aC _,by simp;omega,?_⟩
   ·rw[aO,List.map_cons,List.map_nil,af (by omega)]
   ·rw[<-h3,ai,List.drop_of_length_le (l:=l.take (i+1)) (by rw[aB];omega)];rfl
  ·rw[if_neg k] at h3
   rw[if_neg (fun e=>k (UInt8.toNat_inj.1 (by have:=eq_of_beq e;omega)))]
   simp only[aa]
   refine ⟨_,rfl,fr,done,?_,by omega,by omega,?_⟩
   ·rw[af (by omega)]
   ·rw[<-h3,List.take_succ_eq_append_getElem hi,List.drop_append_of_le_length (by rw[aB];omega)]) (fun s hI=>by
  obtain ⟨fr,done,rfl,h1,h2,h3⟩:=hI
  unfold ox
  simp only[]
  rw[if_neg (by rw[bO];simp)]) (s:=(([] :List ByteArray),0,0)) ⟨0,[],rfl,aC _,aC _,by simp⟩ (dK _ (by omega))
 unfold hZ
 rw[ax e,bO]
 simp only[]
 rw[slB h1 (aC _)]
 simp only[aa]
 have hx:b9 16 (done.map mkB) [mkB ((l.take l.length).drop fr)] =some (done.map mkB++ [mkB ((l.take l.length).drop fr)]):=aL (by rw[List.length_map];simp only[ak,aF];omega)
 rw[hx,<-h3,List.drop_length,o8]
 simp
theorem ED {c:UInt8} : ∀ {l:List UInt8},c∉l->Lib.index l [c] = -1
 | [],_=>rfl
 | b::l,h=>by
  have hb:c≠b:=fun e=>h (by simp[e])
  have k:([c] :List UInt8).isPrefixOf (b::l)=false:=by simp[List.isPrefixOf,hb]
  rw[Lib.index,k,ED fun k=>h (bf _ k)];rfl
theorem EE {c:UInt8} : ∀ {a r:List UInt8},c∉a->Lib.index (a++c::r) [c] =(a.length:Int)
 | [],r,_=>by simp[Lib.index,List.isPrefixOf]
 | b::a,r,h=>by
  have hb:c≠b:=fun e=>h (by simp[e])
  have k:([c] :List UInt8).isPrefixOf (b::(a++c::r))=false:=by simp[List.isPrefixOf,hb]
  rw[List.cons_append,Lib.index,k,EE fun k=>h (bf _ k)]
  rw[if_neg (by decide),if_neg (by rw[beq_iff_eq];omega),ak];omega
theorem G5 (c:UInt8): ∀(n:Nat) (l:List UInt8),l.length<=n->Lib.splitK [c] 0 (Lib.count l [c]) l=o8 c [] l
 | n,l,h=>by
  rcases tq c l with k | ⟨a,r,rfl,k⟩
  ·have e:=ED k
   rw[Lib.count_miss e,n7 k];rfl
  ·have e:=EE (r:=r) k
   have hd:(a++c::r).drop (a.length+1)=r:=by
    rw[<-List.drop_drop,List.drop_left];rfl
   rw[Lib.count_hit (by simp) e,qD k,Nat.add_comm 1,Lib.splitK,e,if_neg (by rw[beq_iff_eq];omega)]
   show List.take (a.length+0) _::Lib.splitK [c] 0 (Lib.count ((a++c::r).drop (a.length+1)) [c]) ((a++c::r).drop (a.length+1))=_
   rw[hd,Nat.add_zero,List.take_left]
   cases n with
   | zero=>simp at h
   | succ n=>rw[G5 c n r (by simp at h;omega)];rfl
theorem EF (l:List UInt8) (c:UInt8) (hl:l.length<=1000000):cG (mkB l) (mkB [c])=some ((o8 c [] l).map mkB):=by
 unfold cG R.J8 chk
 rw[bO,bO,if_pos ⟨by omega,by simp⟩,aa]
 congr 1
 have e:=Lib.splitB_data (mkB [c]) 0 (Lib.countB (mkB l) (mkB [c])) (mkB l)
 rw[eZ,eZ] at e
 have e2:Lib.countB (mkB l) (mkB [c])=Lib.count l [c]:=by unfold Lib.countB;rw[eZ,eZ]
 rw[e2,G5 c l.length l (aC _)] at e
 rw[e2,<-e,List.map_map]
 conv=>lhs;rw[<-List.map_id (Lib.splitB _ _ _ _)]
 exact List.map_congr_left fun x _=>(EC x).symm
theorem R7 {l:List UInt8} {c:UInt8} (hl:l.length<=1000000) (h:c∉l):cS (mkB l) (mkB [c])=some (mkB l,mkB [],false):=by
 unfold cS R.XC chk
 rw[bO,if_pos (by omega),aa,eZ,eZ]
 have:Lib.cut l [c] =(l,[],false):=by unfold Lib.cut;rw[ED h,if_neg (by decide)]
 rw[this];rfl
theorem TA {a r:List UInt8} {c:UInt8} (hl:(a++c::r).length<=1000000) (h:c∉a):cS (mkB (a++c::r)) (mkB [c])=some (mkB a,mkB r,true):=by
 unfold cS R.XC chk
 rw[bO,if_pos (by omega),aa,eZ,eZ]
 have:Lib.cut (a++c::r) [c] =(a,r,true):=by
  unfold Lib.cut
  rw[EE h,if_pos (by omega)]
  have hd:(a++c::r).drop (a.length+1)=r:=by
   rw[<-List.drop_drop,List.drop_left];rfl
  show (List.take a.length _,List.drop (a.length+1) _,true)=_
  rw[List.take_left,hd]
 rw[this];rfl
theorem Kn {c:UInt8} : ∀ {l:List UInt8},c∉l->Lib.indexByte l c= -1
 | [],_=>rfl
 | b::l,h=>by
  have hb:b≠c:=fun e=>h (by simp[e])
  rw[Lib.indexByte,if_neg (by simpa using hb),Kn fun k=>h (bf _ k)];rfl
theorem TC {c:UInt8} : ∀ {a r:List UInt8},c∉a->Lib.indexByte (a++c::r) c=(a.length:Int)
 | [],r,_=>by simp[Lib.indexByte]
 | b::a,r,h=>by
  have hb:b≠c:=fun e=>h (by simp[e])
  rw[List.cons_append,Lib.indexByte,if_neg (by simpa using hb),TC fun k=>h (bf _ k),if_neg (by rw[beq_iff_eq];omega),ak];omega
end D
namespace D
open Go.RowKit
theorem Zc {α:Type} {l:List α} (h:l.length=3): ∃a b c,l= [a,b,c]:=by
 match l,h with
 | [a,b,c],_=>exact ⟨a,b,c,rfl⟩
abbrev EgT:Type:=Int×Int×Int×Int
theorem R8 (c:UInt8) (cur l:List UInt8):1<=(o8 c cur l).length:=by
 rcases tq c l with k | ⟨a,r,rfl,k⟩
 ·rw[n7 k];simp
 ·rw[qD k];simp
theorem G6 (u:Nat): ∀b∈Lib.decDigits u,48<=b.toNat/\b.toNat<=57:=by
 induction u using Nat.strongRecOn with
 | _ u ih =>
  intro b hb
  have k: ∀d,d<10->48<=(UInt8.ofNat (48+d)).toNat/\(UInt8.ofNat (48+d)).toNat<=57:=fun d hd=>by
   have e:(UInt8.ofNat (48+d)).toNat=48+d:=by simp;omega
   omega
  by_cases h:u<10
  ·rw[Lib.decDigits_one h] at hb
   obtain rfl:=aw hb
   exact k u h
  ·rw[zq h] at hb
   rcases aI hb with hb | hb
   ·exact ih (u / 10) (by omega) b hb
   ·obtain rfl:=aw hb
    exact k _ (Nat.mod_lt _ (by omega))
theorem R9 (n:Int): ∀b∈Lib.itoa n,b.toNat=45\/48<=b.toNat/\b.toNat<=57:=by
 intro b hb
 unfold Lib.itoa at hb
 split at hb
 ·rcases aA hb with rfl | hb
  ·exact .inl rfl
  ·exact .inr (G6 _ b hb)
 ·exact .inr (G6 _ b hb)
theorem TE {n:Int} {c:UInt8} (h1:c.toNat≠45) (h2:c.toNat<48\/57<c.toNat):c∉Lib.itoa n:=fun h=>by
 rcases R9 n c h with k | k <;> omega
theorem TG {n:Int} (h:0<=n/\n<=9):Lib.itoa n= [UInt8.ofNat (48+n.toNat)]:=by
 unfold Lib.itoa
 rw[if_neg (by omega),Lib.decDigits_one (by omega)]
theorem IT {e:EgT} (h:edOk e):sC e=Lib.itoa e.1++58:: [UInt8.ofNat (48+e.2.1.toNat),UInt8.ofNat (97+e.2.2.2.toNat),UInt8.ofNat (48+e.2.2.1.toNat)]:=by
 obtain ⟨-,h2,h3,-⟩:=h
 unfold sC
 rw[TG (n:=e.2.1) (by omega),TG (n:=e.2.2.1) (by omega)]
 simp
theorem XO: ∀k:Fin 9,∃x,eH (k.val:Int)=some x:=by
 intro k
 match k with
 | ⟨0,_⟩=>exact ⟨_,rfl⟩
 | ⟨1,_⟩=>exact ⟨_,rfl⟩
 | ⟨2,_⟩=>exact ⟨_,rfl⟩
 | ⟨3,_⟩=>exact ⟨_,rfl⟩
 | ⟨4,_⟩=>exact ⟨_,rfl⟩
 | ⟨5,_⟩=>exact ⟨_,rfl⟩
 | ⟨6,_⟩=>exact ⟨_,rfl⟩
 | ⟨7,_⟩=>exact ⟨_,rfl⟩
 | ⟨8,_⟩=>exact ⟨_,rfl⟩
theorem LP (z:ByteArray): ∃r,fI z=some r:=by
 obtain ⟨o,e,h⟩:=cV (f:=kD z) (fun i s=>s=(i:Int)) (fun o=> ∀s,o≠ .nxt s) 9 (fun i s hi hI=>by
  subst hI
  unfold kD
  by_cases h1:i<9
  ·obtain ⟨x,ex⟩:=XO ⟨i,h1⟩
   have ex:eH (i:Int)=some x:=ex
   rw[if_pos (decide_eq_true (by omega)),ex]
   simp only[aa]
   by_cases c:(x==z)=true
   ·rw[if_pos c];exact .inr ⟨_,rfl,fun s' h=>(by simp at h),fun s' h=>(by simp at h)⟩
   ·rw[if_neg c];exact .inl ⟨h1,_,rfl,af (by omega)⟩
  ·obtain rfl:i=9:=by omega
   rw[if_neg (by decide)];exact .inr ⟨_,rfl,fun s' h=>(by simp at h),fun s' h=>(by simp at h)⟩) (s:=(0:Int)) rfl (dK _ (by omega))
 unfold fI
 rw[e]
 cases o with
 | nxt s=>exact absurd rfl (h s)
 | brk s=>exact ⟨_,rfl⟩
 | ret r=>exact ⟨_,rfl⟩
theorem O8: ∀k:Fin 3,fI (mkB [UInt8.ofNat (97+k.val)])=some (2*(k.val:Int),true):=by
 intro k
 have hf:=dK 100 (by omega)
 obtain ⟨n,hn⟩: ∃n,aW=n+6:=⟨aW - 6,by omega⟩
 unfold fI
 rw[hn]
 match k with
 | ⟨0,_⟩=>rfl
 | ⟨1,_⟩=>rfl
 | ⟨2,_⟩=>rfl
theorem ZW: ∀d:Fin 5,IntKind.i64.wrap ((IntKind.i64.wrap (((UInt8.ofNat (48+d.val)).toNat:Nat):Int)) - 48)=(d.val:Int):=by decide
theorem aab: ∀d:Fin 3,IntKind.i64.wrap ((IntKind.i64.wrap (((UInt8.ofNat (97+d.val)).toNat:Nat):Int)) - 97)=(d.val:Int):=by decide
theorem aac: ∀d:Fin 3,P0 (2*(d.val:Int)) 2=(d.val:Int):=by decide
def YA (s:List UInt8) (r:EgT×Bool):Prop:=r=((0,0,0,0),false)\/r.2=true/\edOk r.1/\s=sC r.1
theorem TH {e:EgT} {s:List UInt8} (h:s≠ []): ∃r:EgT×Bool,(if (if edOk e then mkB (sC e) else mkB []) !=mkB s then (some ((0,0,0,0),false)) else (some (e,true)):Option (EgT×Bool))=some r/\YA s r:=by
 by_cases k:edOk e
 ·rw[if_pos k]
  by_cases c:mkB (sC e)=mkB s
  ·rw[if_neg (by simp[c])];exact ⟨_,rfl,.inr ⟨rfl,k,(xC c).symm⟩⟩
  ·rw[if_pos (by simpa using c)];exact ⟨_,rfl,.inl rfl⟩
 ·rw[if_neg k,if_pos (by
   rw[bne_iff_ne]
   exact fun c=>h (xC c).symm)]
  exact ⟨_,rfl,.inl rfl⟩
theorem aad (l:List UInt8) (hl:l.length<=1000000): ∃r,fY (mkB l)=some r/\YA l r:=by
 unfold fY
 have ec:hZ (mkB l) 58=some ((o8 58 [] l).map mkB):=wq l 58 hl
 rw[ec];simp only[aa]
 rcases tq 58 l with k | ⟨a,r,rfl,k⟩
 ·rw[n7 k];exact ⟨_,rfl,.inl rfl⟩
 ·rw[qD k]
  rcases tq 58 r with k2 | ⟨b,q,rfl,k2⟩
  ·rw[n7 k2]
   simp only[List.nil_append,List.map_cons,List.map_nil]
   have g0:aQ [mkB a,mkB r] 0=some (mkB a):=rfl
   have g1:aQ [mkB a,mkB r] 1=some (mkB r):=rfl
   rw[if_neg (by simp)]
   simp only[g0,g1,aa,bO]
   by_cases h3:r.length=3
   ·obtain ⟨x,y,z,rfl⟩:=Zc h3
    obtain ⟨n,en,-,-⟩:=qC (mkB a)
    obtain ⟨t,et⟩:=LP (mkB [y])
    have s1:rj (mkB [x,y,z]) 1 2=some (mkB [y]):=slB (l:=[x,y,z]) (a:=1) (b:=2) (by decide) (by simp)
    have a0:jM (mkB [x,y,z]) 0=some ((x.toNat:Nat):Int):=atB (l:=[x,y,z]) (i:=0) (by simp)
    have a2:jM (mkB [x,y,z]) 2=some ((z.toNat:Nat):Int):=atB (l:=[x,y,z]) (i:=2) (by simp)
    rw[if_neg (by simp),en,s1]
    simp only[aa]
    rw[et,a0,a2]
    simp only[aa]
    rw[O4]
    simp only[aa]
    exact TH (by simp)
   ·rw[if_pos (by rw[bne_iff_ne];omega)];exact ⟨_,rfl,.inl rfl⟩
  ·rw[qD k2]
   have:=R8 58 [] q
   rw[if_pos (by rw[bne_iff_ne];simp only[List.length_map,ak];omega)]
   exact ⟨_,rfl,.inl rfl⟩
theorem aae (l:List UInt8) (hl:l.length<=1000000): ∃r,gf (mkB l)=some r/\YA l r:=by
 unfold gf
 rcases tq 58 l with k | ⟨a,r,rfl,k⟩
 ·have ec:cS (mkB l) (⟨#[58]⟩)=some (mkB l,mkB [],false):=R7 hl k
  rw[ec];exact ⟨_,rfl,.inl rfl⟩
 ·have ec:cS (mkB (a++58::r)) (⟨#[58]⟩)=some (mkB a,mkB r,true):=TA hl k
  rw[ec]
  simp only[aa,bO]
  by_cases h3:r.length=3
  ·obtain ⟨x,y,z,rfl⟩:=Zc h3
   obtain ⟨n,-,en,-⟩:=qC (mkB a)
   have a0:jM (mkB [x,y,z]) 0=some ((x.toNat:Nat):Int):=atB (l:=[x,y,z]) (i:=0) (by simp)
   have a1:jM (mkB [x,y,z]) 1=some ((y.toNat:Nat):Int):=atB (l:=[x,y,z]) (i:=1) (by simp)
   have a2:jM (mkB [x,y,z]) 2=some ((z.toNat:Nat):Int):=atB (l:=[x,y,z]) (i:=2) (by simp)
   rw[if_neg (by simp),en,a0,a1,a2]
   simp only[aa]
   rw[O5]
   simp only[aa]
   exact TH (by simp)
  ·rw[if_pos (by rw[bne_iff_ne];omega)];exact ⟨_,rfl,.inl rfl⟩
theorem V4 {e:EgT} (h:edOk e):fY (mkB (sC e))=some (e,true)/\gf (mkB (sC e))=some (e,true):=by
 have hn:=tm h
 have he:=IT h
 have hl:(sC e).length<=1000000:=by omega
 obtain ⟨h1,h2,h3,h4⟩:=id h
 obtain ⟨p1,p2⟩:=Ey (n:=e.1) (by omega)
 have k:(58:UInt8)∉Lib.itoa e.1:=TE (by decide) (by decide)
 obtain ⟨f,hf,ef⟩: ∃k:Nat,k<5/\e.2.1=(k:Int):=⟨e.2.1.toNat,by omega,by omega⟩
 obtain ⟨t,ht,et⟩: ∃k:Nat,k<5/\e.2.2.1=(k:Int):=⟨e.2.2.1.toNat,by omega,by omega⟩
 obtain ⟨q,hq,eq⟩: ∃k:Nat,k<3/\e.2.2.2=(k:Int):=⟨e.2.2.2.toNat,by omega,by omega⟩
 have hx:sC e=Lib.itoa e.1++58:: [UInt8.ofNat (48+f),UInt8.ofNat (97+q),UInt8.ofNat (48+t)]:=by
  rw[he,ef,et,eq];rfl
 have k2:(58:UInt8) ∉ [UInt8.ofNat (48+f),UInt8.ofNat (97+q),UInt8.ofNat (48+t)]:=by
  have e1:(UInt8.ofNat (48+f)).toNat=48+f:=by simp;omega
  have e2:(UInt8.ofNat (97+q)).toNat=97+q:=by simp;omega
  have e3:(UInt8.ofNat (48+t)).toNat=48+t:=by simp;omega
  have e4:(58:UInt8).toNat=58:=rfl
  intro hm
  simp only[List.mem_cons,List.not_mem_nil,or_false] at hm
  rcases hm with hm | hm | hm <;> (have:=congrArg UInt8.toNat hm;omega)
 have a0:jM (mkB [UInt8.ofNat (48+f),UInt8.ofNat (97+q),UInt8.ofNat (48+t)]) 0=some (((UInt8.ofNat (48+f)).toNat:Nat):Int):=atB (l:=[UInt8.ofNat (48+f),UInt8.ofNat (97+q),UInt8.ofNat (48+t)]) (i:=0) (by simp)
 have a1:jM (mkB [UInt8.ofNat (48+f),UInt8.ofNat (97+q),UInt8.ofNat (48+t)]) 1=some (((UInt8.ofNat (97+q)).toNat:Nat):Int):=atB (l:=[UInt8.ofNat (48+f),UInt8.ofNat (97+q),UInt8.ofNat (48+t)]) (i:=1) (by simp)
 have a2:jM (mkB [UInt8.ofNat (48+f),UInt8.ofNat (97+q),UInt8.ofNat (48+t)]) 2=some (((UInt8.ofNat (48+t)).toNat:Nat):Int):=atB (l:=[UInt8.ofNat (48+f),UInt8.ofNat (97+q),UInt8.ofNat (48+t)]) (i:=2) (by simp)
 have s1:rj (mkB [UInt8.ofNat (48+f),UInt8.ofNat (97+q),UInt8.ofNat (48+t)]) 1 2=some (mkB [UInt8.ofNat (97+q)]):=slB (l:=[UInt8.ofNat (48+f),UInt8.ofNat (97+q),UInt8.ofNat (48+t)]) (a:=1) (b:=2) (by decide) (by simp)
 have v1:=ZW ⟨f,hf⟩
 have v2:=ZW ⟨t,ht⟩
 have v3:=aab ⟨q,hq⟩
 have v4:=aac ⟨q,hq⟩
 have v5:=O8 ⟨q,hq⟩
 simp only at v1 v2 v3 v4 v5
 have ee:(e.1,(f:Int),(t:Int),(q:Int))=e:=by rw[<-ef,<-et,<-eq]
 constructor
 ·unfold fY
  have ec:hZ (mkB (sC e)) 58=some ((o8 58 [] (sC e)).map mkB):=wq _ 58 hl
  rw[ec];simp only[aa]
  rw[hx,qD k,n7 k2]
  simp only[List.nil_append,List.map_cons,List.map_nil]
  rw[if_neg (by simp)]
  have g0: ∀a b:ByteArray,aQ [a,b] 0=some a:=fun a b=>rfl
  have g1: ∀a b:ByteArray,aQ [a,b] 1=some b:=fun a b=>rfl
  simp only[g0,g1,aa,bO]
  rw[if_neg (by simp),p1,s1]
  simp only[aa]
  rw[v5,a0,a2]
  simp only[aa]
  rw[v1,v2,v4,ee,O4,if_pos h,<-hx]
  simp
 ·unfold gf
  have ec:cS (mkB (sC e)) (⟨#[58]⟩)=some (mkB (Lib.itoa e.1),mkB [UInt8.ofNat (48+f),UInt8.ofNat (97+q),UInt8.ofNat (48+t)],true):=by
   rw[hx] at hl⊢
   exact TA hl k
  rw[ec]
  simp only[aa,bO]
  rw[if_neg (by simp),p2,a0,a1,a2]
  simp only[aa]
  rw[v1,v2,v3,ee,O5,if_pos h]
  simp
theorem O9 (l:List UInt8) (hl:l.length<=1000000): ∃r,fY (mkB l)=some r/\gf (mkB l)=some r/\YA l r:=by
 by_cases h: ∃e:EgT,edOk e/\l=sC e
 ·obtain ⟨e,he,rfl⟩:=h
  exact ⟨_,(V4 he).1,(V4 he).2,.inr ⟨rfl,he,rfl⟩⟩
 ·obtain ⟨r1,e1,k1⟩:=aad l hl
  obtain ⟨r2,e2,k2⟩:=aae l hl
  rcases k1 with rfl | ⟨-,a,b⟩
  ·rcases k2 with rfl | ⟨-,a,b⟩
   ·exact ⟨_,e1,e2,.inl rfl⟩
   ·exact absurd ⟨_,a,b⟩ h
  ·exact absurd ⟨_,a,b⟩ h
end D
namespace D
open Go.RowKit
theorem Sa {e:EgT} (h:edOk e) {c:UInt8} (h1:c.toNat≠45) (h2:c.toNat<48):c∉sC e:=by
 obtain ⟨-,-,-,h4⟩:=id h
 rw[IT h]
 intro hm
 rcases aI hm with hm | hm
 ·exact TE h1 (.inl h2) hm
 ·have e1:(UInt8.ofNat (48+e.2.1.toNat)).toNat=48+e.2.1.toNat:=by have:=h.2.1;simp;omega
  have e2:(UInt8.ofNat (97+e.2.2.2.toNat)).toNat=97+e.2.2.2.toNat:=by simp;omega
  have e3:(UInt8.ofNat (48+e.2.2.1.toNat)).toNat=48+e.2.2.1.toNat:=by have:=h.2.2.1;simp;omega
  have e4:(58:UInt8).toNat=58:=rfl
  simp only[List.mem_cons,List.not_mem_nil,or_false] at hm
  rcases hm with hm | hm | hm | hm <;> (have:=congrArg UInt8.toNat hm;omega)
theorem Ko {c:ChT} (h:edOk c.2) {b:UInt8} (h1:b.toNat≠45) (h2:b.toNat<48) (h3:b.toNat≠43):b∉o7 c:=by
 unfold o7
 intro hm
 rcases aA hm with hm | hm
 ·have:=congrArg UInt8.toNat hm
  split at this
  ·exact h3 this
  ·exact h1 this
 ·exact Sa h h1 h2 hm
theorem yC {c:UInt8} : ∀ {r:List (List UInt8)} {x:List UInt8},c∉x->(∀y∈r,c∉y)->o8 c [] (x++Lib.joinTail [c] r)=x::r
 | [],x,hx,_=>by
  have:Lib.joinTail [c] [] = []:=by simp[Lib.joinTail]
  rw[this,List.append_nil,n7 hx];rfl
 | y::r,x,hx,hr=>by
  have:Lib.joinTail [c] (y::r)=c::(y++Lib.joinTail [c] r):=by simp[Lib.joinTail]
  rw[this,qD hx,yC (hr y (by simp)) fun z hz=>hr z (bf _ hz)];rfl
theorem Pa {l:List ChT} (h:zt l) (h0:l≠ []):o8 32 [] (btx l)=l.map o7:=by
 cases l with
 | nil=>exact absurd rfl h0
 | cons c r =>
  unfold btx
  rw[List.map_cons,Lib.join_cons]
  refine yC (Ko (h c (by simp)) (by decide) (by decide) (by decide)) fun y hy=>?_
  obtain ⟨d,hd,rfl⟩:=List.mem_map.1 hy
  exact Ko (h d (bf _ hd)) (by decide) (by decide) (by decide)
theorem Pb:btx [] = []:=by simp[btx,Lib.join_nil]
theorem TJ {l:List ChT} (h0:l≠ []):btx l≠ []:=by
 cases l with
 | nil=>exact absurd rfl h0
 | cons c r=>unfold btx;rw[List.map_cons,Lib.join_cons];simp[o7]
def YB (s:List UInt8) (r:(List ChT)×Bool):Prop:=r=([],false)\/r.2=true/\r.1.length<=6/\zt r.1/\s=btx r.1
theorem Pc {p:List UInt8} (h:1<=p.length):rj (mkB p) 1 (p.length:Int)=some (mkB (p.drop 1)):=by
 have:=slB (l:=p) (a:=1) (b:=p.length) h (aC _)
 rw[List.take_length] at this
 exact this
theorem sE (p:List UInt8):(mkB p==(⟨#[]⟩:ByteArray))=decide (p= []):=by
 by_cases h:p= []
 ·subst h;rfl
 ·rw[decide_eq_false h,beq_eq_false_iff_ne]
  intro k
  exact h (xC (b:=[]) k)
open Classical in
theorem TK {f:List ChT->Option ByteArray} (hf: ∀l,f l=some (if l.length<=6/\zt l then mkB (btx l) else mkB [])) {b:List ChT} {s:List UInt8} (h:s≠ []): ∃r:(List ChT)×Bool,((f b).bind fun r16=>if r16 !=mkB s then (some (([] :List ChT),false)) else (some (b,true)):Option ((List ChT)×Bool))=some r/\YB s r:=by
 rw[hf]
 simp only[aa]
 by_cases k:b.length<=6/\zt b
 ·rw[if_pos k]
  by_cases c:mkB (btx b)=mkB s
  ·rw[if_neg (by simp[c])];exact ⟨_,rfl,.inr ⟨rfl,k.1,k.2,(xC c).symm⟩⟩
  ·rw[if_pos (by simpa using c)];exact ⟨_,rfl,.inl rfl⟩
 ·rw[if_neg k,if_pos (by
   rw[bne_iff_ne]
   exact fun c=>h (xC c).symm)]
  exact ⟨_,rfl,.inl rfl⟩
theorem aaf (l:List UInt8) (hl:l.length<=1000000): ∃r,dH (mkB l)=some r/\(l= [] \/YB l r):=by
 unfold dH
 by_cases h0:l= []
 ·rw[sE,if_pos (decide_eq_true h0)];exact ⟨_,rfl,.inl h0⟩
 rw[sE,if_neg (by simpa using h0)]
 have ec:hZ (mkB l) 32=some ((o8 32 [] l).map mkB):=wq l 32 hl
 rw[ec];simp only[aa]
 obtain ⟨o,e,hQ⟩:=cV (f:=cC ((o8 32 [] l).map mkB)) (fun i s=> ∃b:List ChT,s=((i:Int),b)/\b.length=i) (fun o=>o= .ret (([] :List ChT),false)\/ ∃s,o= .brk s) 7 (fun i s hi hI=>by
  obtain ⟨b,rfl,hb⟩:=hI
  unfold cC
  simp only[]
  by_cases h1:i<((o8 32 [] l).map mkB).length
  ·rw[bM h1,if_pos rfl]
   by_cases h7:i<=6
   ·rw[if_pos (decide_eq_true (by omega)),aE h1]
    simp only[aa]
    rw[List.length_map] at h1
    have hp:=sD 32 l [] _ (List.getElem_mem h1)
    rw[List.getElem_map]
    generalize (o8 32 [] l)[i] =p at hp⊢
    rw[aF] at hp
    rw[bO]
    by_cases h2:p.length<2
    ·rw[if_pos (decide_eq_true (by omega))]
     exact .inr ⟨_,rfl,fun s' h=>(by simp at h),.inl rfl⟩
    ·rw[if_neg (by simp;omega),Pc (by omega)]
     simp only[aa]
     obtain ⟨r,er,-,-⟩:=O9 (p.drop 1) (by rw[aS];omega)
     rw[er]
     simp only[aa]
     have a0:jM (mkB p) 0=some ((p[0].toNat:Nat):Int):=atB (l:=p) (i:=0) (by omega)
     by_cases h3:r.2=true
     ·rw[if_pos h3,a0]
      simp only[aa]
      have hx: ∀z:ChT,b9 40 b [z] =some (b++ [z]):=fun z=>aL (by simp only[ak,aF];omega)
      rw[hx]
      simp only[aa]
      exact .inl ⟨by omega,_,rfl,_,by rw[af (by omega)],by simp;omega⟩
     ·rw[if_neg h3]
      exact .inr ⟨_,rfl,fun s' h=>(by simp at h),.inl rfl⟩
   ·rw[if_neg (by simp;omega)]
    exact .inr ⟨_,rfl,fun s' h=>(by simp at h),.inr ⟨_,rfl⟩⟩
  ·rw[if_neg (by simp only[decide_eq_true_eq];omega)]
   exact .inr ⟨_,rfl,fun s' h=>(by simp at h),.inr ⟨_,rfl⟩⟩) (s:=(0,([] :List ChT))) ⟨[],rfl,rfl⟩ (dK _ (by omega))
 rcases hQ with rfl | ⟨s,rfl⟩
 ·rw[cJ e];exact ⟨_,rfl,.inr (.inl rfl)⟩
 ·rw[ax e]
  obtain ⟨r,er,k⟩:=TK (f:=cP) (fun l=>(tn l).1) (b:=s.2) h0
  exact ⟨r,er,.inr k⟩
theorem aag (l:List UInt8) (hl:l.length<=1000000): ∃r,dI (mkB l)=some r/\(l= [] \/YB l r):=by
 unfold dI
 by_cases h0:l= []
 ·rw[sE,if_pos (decide_eq_true h0)];exact ⟨_,rfl,.inl h0⟩
 rw[sE,if_neg (by simpa using h0)]
 have ec:cG (mkB l) (⟨#[32]⟩)=some ((o8 32 [] l).map mkB):=EF l 32 hl
 rw[ec];simp only[aa]
 have hn:=EB 32 l []
 obtain ⟨o,e,hQ⟩:=cV (f:=cH ((o8 32 [] l).map mkB)) (fun i s=> ∃b:List ChT,s=((i:Int),b)/\b.length=i) (fun o=>o= .ret (([] :List ChT),false)\/ ∃s,o= .brk s) (o8 32 [] l).length (fun i s hi hI=>by
  obtain ⟨b,rfl,hb⟩:=hI
  unfold cH
  simp only[]
  by_cases h1:i<((o8 32 [] l).map mkB).length
  ·rw[bM h1,if_pos rfl,aE h1]
   simp only[aa]
   rw[List.length_map] at h1
   have hp:=sD 32 l [] _ (List.getElem_mem h1)
   rw[List.getElem_map]
   generalize (o8 32 [] l)[i] =p at hp⊢
   rw[aF] at hp
   rw[sE,bO]
   by_cases h2:p= []
   ·rw[if_pos (decide_eq_true h2)]
    exact .inr ⟨_,rfl,fun s' h=>(by simp at h),.inl rfl⟩
   ·have h2':1<=p.length:=List.length_pos_iff.2 h2
    rw[if_neg (by simpa using h2),Pc h2']
    simp only[aa]
    obtain ⟨r,-,er,-⟩:=O9 (p.drop 1) (by rw[aS];omega)
    rw[er]
    simp only[aa]
    have a0:jM (mkB p) 0=some ((p[0].toNat:Nat):Int):=atB (l:=p) (i:=0) (by omega)
    by_cases h3:r.2=true
    ·rw[if_pos h3,a0]
     simp only[aa]
     have hx: ∀z:ChT,b9 40 b [z] =some (b++ [z]):=fun z=>aL (by simp only[ak,aF];omega)
     rw[hx]
     simp only[aa]
     exact .inl ⟨by omega,_,rfl,_,by rw[af (by omega)],by simp;omega⟩
    ·rw[if_neg h3]
     exact .inr ⟨_,rfl,fun s' h=>(by simp at h),.inl rfl⟩
  ·rw[if_neg (by simp only[decide_eq_true_eq];omega)]
   exact .inr ⟨_,rfl,fun s' h=>(by simp at h),.inr ⟨_,rfl⟩⟩) (s:=(0,([] :List ChT))) ⟨[],rfl,rfl⟩ (dK _ (by omega))
 rcases hQ with rfl | ⟨s,rfl⟩
 ·rw[cJ e];exact ⟨_,rfl,.inr (.inl rfl)⟩
 ·rw[ax e]
  obtain ⟨r,er,k⟩:=TK (f:=dS) (fun l=>(tn l).2) (b:=s.2) h0
  exact ⟨r,er,.inr k⟩
theorem Pd {L:List ChT} (h:zt L) (h6:L.length<=6) {i:Nat} (hi:i<L.length):cC ((L.map o7).map mkB) ((i:Int),L.take i)=some (.nxt (((i+1:Nat):Int),L.take (i+1)))/\cH ((L.map o7).map mkB) ((i:Int),L.take i)=some (.nxt (((i+1:Nat):Int),L.take (i+1))):=by
 have hl:i<((L.map o7).map mkB).length:=by rw[List.length_map,List.length_map];exact hi
 have hk:edOk L[i].2:=h _ (List.getElem_mem hi)
 have hp:=tm hk
 have eg:((L.map o7).map mkB)[i] =mkB (o7 L[i]):=by simp
 obtain ⟨p1,p2⟩:=V4 hk
 have hs:(o7 L[i]).length=(sC L[i].2).length+1:=by unfold o7;rw[ak]
 have h4:4<=(sC L[i].2).length:=by rw[IT hk];simp
 have ed:(o7 L[i]).drop 1=sC L[i].2:=rfl
 have a0:jM (mkB (o7 L[i])) 0=some (((if L[i].1 then (43:UInt8) else 45).toNat:Nat):Int):=atB (l:=o7 L[i]) (i:=0) (by omega)
 have hz:((((if L[i].1 then (43:UInt8) else 45).toNat:Nat):Int)==43)=L[i].1:=by
  generalize L[i].1=t
  cases t <;> rfl
 have hx: ∀z:ChT,b9 40 (L.take i) [z] =some (L.take i++ [z]):=fun z=>aL (by rw[aB];simp only[ak,aF];omega)
 have et:=List.take_succ_eq_append_getElem hi
 have st:=Pc (p:=o7 L[i]) (by omega)
 constructor
 ·unfold cC
  simp only[]
  rw[bM hl,if_pos rfl,if_pos (decide_eq_true (by omega)),aE hl,eg]
  simp only[aa]
  rw[bO,if_neg (by simp;omega),st,ed]
  simp only[aa]
  rw[p1]
  simp only[aa]
  rw[if_pos trivial,a0]
  simp only[aa]
  rw[hz,hx,af (by omega),et];rfl
 ·unfold cH
  simp only[]
  rw[bM hl,if_pos rfl,aE hl,eg]
  simp only[aa]
  rw[sE,if_neg (by simp[o7]),bO,st,ed]
  simp only[aa]
  rw[p2]
  simp only[aa]
  rw[if_pos trivial,a0]
  simp only[aa]
  rw[hz,hx,af (by omega),et];rfl
theorem XP {L:List ChT} (h:zt L) (h6:L.length<=6):dH (mkB (btx L))=some (L,true)/\dI (mkB (btx L))=some (L,true):=by
 by_cases h0:L= []
 ·subst h0
  unfold dH dI
  rw[Pb]
  exact ⟨rfl,rfl⟩
 have hn:=EA h
 have hl:(btx L).length<=1000000:=by omega
 have eb: ∀s i:Option ByteArray,True:=fun _ _=>trivial
 obtain ⟨b1,b2⟩:=tn L
 rw[if_pos ⟨h6,h⟩] at b1 b2
 have hs:=bh (f:=cC ((L.map o7).map mkB)) (fun i=>((i:Int),L.take i)) L.length (fun i hi=>(Pd h h6 hi).1) (by
  unfold cC
  simp only[]
  rw[if_neg (by simp)]) (dK _ (by omega))
 have hi:=bh (f:=cH ((L.map o7).map mkB)) (fun i=>((i:Int),L.take i)) L.length (fun i hi=>(Pd h h6 hi).2) (by
  unfold cH
  simp only[]
  rw[if_neg (by simp)]) (dK _ (by omega))
 rw[List.take_length] at hs hi
 constructor
 ·unfold dH
  have ec:hZ (mkB (btx L)) 32=some ((o8 32 [] (btx L)).map mkB):=wq _ 32 hl
  rw[sE,if_neg (by simpa using TJ h0),ec,Pa h h0]
  simp only[aa]
  have hs:az (cC ((L.map o7).map mkB)) aW (0,([] :List ChT))=_:=hs
  rw[ax hs]
  simp only[]
  rw[b1]
  simp
 ·unfold dI
  have ec:cG (mkB (btx L)) (⟨#[32]⟩)=some ((o8 32 [] (btx L)).map mkB):=EF _ 32 hl
  rw[sE,if_neg (by simpa using TJ h0),ec,Pa h h0]
  simp only[aa]
  have hi:az (cH ((L.map o7).map mkB)) aW (0,([] :List ChT))=_:=hi
  rw[ax hi]
  simp only[]
  rw[b2]
  simp
theorem V5 (l:List UInt8) (hl:l.length<=1000000): ∃r,dH (mkB l)=some r/\dI (mkB l)=some r/\YB l r:=by
 by_cases h: ∃L:List ChT,L.length<=6/\zt L/\l=btx L
 ·obtain ⟨L,h6,hk,rfl⟩:=h
  exact ⟨_,(XP hk h6).1,(XP hk h6).2,.inr ⟨rfl,h6,hk,rfl⟩⟩
 ·have hne:l≠ []:=fun e=>h ⟨[],by simp,fun c hc=>by simp at hc,by rw[e,Pb]⟩
  obtain ⟨r1,e1,k1⟩:=aaf l hl
  obtain ⟨r2,e2,k2⟩:=aag l hl
  rcases k1 with k | rfl | ⟨-,a,b,c⟩
  ·exact absurd k hne
  ·rcases k2 with k | rfl | ⟨-,a,b,c⟩
   ·exact absurd k hne
   ·exact ⟨_,e1,e2,.inl rfl⟩
   ·exact absurd ⟨_,a,b,c⟩ h
  ·exact absurd ⟨_,a,b,c⟩ h
end D
namespace D
open Go.RowKit
def recT (v:Int) (b:List ChT):List UInt8:=((eI v b).getD ByteArray.empty).data.toList
theorem XQ (v:Int) (b:List ChT):eI v b=some (mkB (recT v b))/\gy v b=some (mkB (recT v b))/\(recT v b).length<=1000:=by
 obtain ⟨r,e1,e2,h⟩:=Bo v b
 have e:mkB (recT v b)=r:=by unfold recT;rw[e1];exact EC r
 rw[<-e,bO] at h
 rw[e]
 exact ⟨e1,e2,h⟩
def totL (r:List Int) (q:List (List ChT)):Nat->Nat
 | 0=>0
 | i+1=>totL r q i+(recT (nth r (i:Int)) (nth q (i:Int))).length
theorem Kp {r:List Int} {q:List (List ChT)} (h:q.length=r.length) (x:List Int) (y:List (List ChT)): ∀i,i<=r.length->totL (r++x) (q++y) i=totL r q i
 | 0,_=>rfl
 | i+1,hi=>by
  rw[totL,totL,Kp h x y i (by omega),iu (by omega) (by omega),iu (by omega) (by omega)]
theorem Pe {r:List Int} {q:List (List ChT)} (h:q.length=r.length) (v:Int) (b:List ChT):totL (r++ [v]) (q++ [b]) (r++ [v]).length=totL r q r.length+(recT v b).length:=by
 have e1:nth (r++ [v]) ((r.length:Nat):Int)=v:=by rw[bX (by simp)];simp
 have e2:nth (q++ [b]) ((r.length:Nat):Int)=b:=by rw[<-h,bX (by simp)];simp
 rw[aq,ak,aF,Nat.zero_add,totL,Kp h _ _ _ (aC _),e1,e2]
theorem Pf (l:List UInt8) (hl:l.length<=1000000): ∃r:Int×List ChT×Bool,jw (mkB l)=some r/\jy (mkB l)=some r/\r.2.1.length<=6/\(-999999999<=r.1/\r.1<=999999999)/\(r.2.2=true->recT r.1 r.2.1=l):=by
 unfold jw jy
 have ec:hZ (mkB l) 59=some ((o8 59 [] l).map mkB):=wq l 59 hl
 have ei:cG (mkB l) (⟨#[59]⟩)=some ((o8 59 [] l).map mkB):=EF l 59 hl
 rw[ec,ei];simp only[aa]
 by_cases h3:(o8 59 [] l).length=3
 ·have hp:=sD 59 l []
  obtain ⟨a,b,c,e⟩:=Zc h3
  rw[e] at hp⊢
  have hb:=hp b (by simp)
  rw[aF] at hb
  simp only[List.map_cons,List.map_nil]
  have g0:aQ [mkB a,mkB b,mkB c] 0=some (mkB a):=rfl
  have g1:aQ [mkB a,mkB b,mkB c] 1=some (mkB b):=rfl
  rw[if_neg (by simp),if_neg (by simp)]
  obtain ⟨v,v1,v2,kv⟩:=qC (mkB a)
  obtain ⟨q,q1,q2,k⟩:=V5 b (by omega)
  obtain ⟨t,t1,t2,-⟩:=Bo v.1 q.1
  have hq:q.1.length<=6:=by
   rcases k with rfl | ⟨-,k,-⟩
   ·simp
   ·exact k
  have hv: -999999999<=v.1/\v.1<=999999999:=by
   rcases kv with ⟨-,k,-⟩ | rfl
   ·exact k
   ·decide
  simp only[g0,g1,v1,v2,q1,q2,t1,t2,aa]
  by_cases c1:v.2=true
  ·by_cases c2:q.2=true
   ·by_cases c3:(t !=mkB l)=true
    ·simp only[if_pos c1,if_pos c2,if_pos c3];exact ⟨_,rfl,rfl,by simp,by decide,fun c=>by cases c⟩
    ·simp only[if_pos c1,if_pos c2,if_neg c3];exact ⟨_,rfl,rfl,hq,hv,fun _=>by
      have e:t=mkB l:=by simpa using c3
      have e2:=(XQ v.1 q.1).1
      rw[t1,e] at e2
      exact (xC (ae e2)).symm⟩
   ·simp only[if_pos c1,if_neg c2];exact ⟨_,rfl,rfl,by simp,by decide,fun c=>by cases c⟩
  ·simp only[if_neg c1];exact ⟨_,rfl,rfl,by simp,by decide,fun c=>by cases c⟩
 ·have k:(((List.map mkB (o8 59 [] l)).length:Int) !=3)=true:=by
   rw[bne_iff_ne,List.length_map];omega
  rw[if_pos k,if_pos k]
  exact ⟨_,rfl,rfl,by simp,by decide,fun c=>by cases c⟩
def ScOk (vs:List Int) (bs:List (List ChT)):Prop:=bs.length=vs.length/\(∀b∈bs,b.length<=6)/\ ∀v∈vs,(-999999999<=v/\v<=999999999)/\v<=nth vs ((vs.length:Int) - 1)
theorem Sb (vs:List Int) (v:Int):nth (vs++ [v]) (((vs++ [v]).length:Int) - 1)=v:=by
 have e:(((vs++ [v]).length:Int) - 1)=((vs.length:Nat):Int):=by simp
 rw[e,bX (by simp)];simp
theorem ScOk.push {vs:List Int} {bs:List (List ChT)} (h:ScOk vs bs) {v:Int} {b:List ChT} (hb:b.length<=6) (hv: -999999999<=v/\v<=999999999) (hx:0<vs.length->v=IntKind.i64.wrap (nth vs ((vs.length:Int) - 1)+1)):ScOk (vs++ [v]) (bs++ [b]):=by
 obtain ⟨h1,h2,h3⟩:=h
 refine ⟨by simp;omega,fun d hd=>?_,fun d hd=>?_⟩
 ·rcases aI hd with q | q
  ·exact h2 d q
  ·obtain rfl:=aw q;exact hb
 ·rw[Sb]
  rcases aI hd with q | q
  ·have h0:0<vs.length:=List.length_pos_of_mem q
   obtain ⟨k1,k2⟩:=h3 d q
   obtain ⟨k3,-⟩:=h3 _ (cv (xs:=vs) (i:=(vs.length:Int) - 1) (by omega) (by omega))
   have:=hx h0
   rw[fg (by omega) (by omega)] at this
   exact ⟨k1,by omega⟩
  ·obtain rfl:=aw q;exact ⟨hv,Int.le_refl _⟩
theorem EG {l:List UInt8} (hl:l.length<=4000) {vs:List Int} {bs:List (List ChT)} {u:Int} : ∀(a r:List UInt8) (i k:Nat),(10:UInt8)∉a->l.drop i=a++r->i<=l.length->az (bw (mkB l)) (k+a.length) (vs,bs,u,(i:Int))=az (bw (mkB l)) k (vs,bs,u,((i+a.length:Nat):Int))
 | [],r,i,k,_,_,_=>rfl
 | x::a,r,i,k,hx,e,hi=>by
  have h1:i<l.length:=by
   have:=congrArg List.length e
   rw[aS,aq,ak] at this;omega
  have e0:=List.drop_eq_getElem_cons h1
  rw[e0,List.cons_append] at e
  obtain ⟨e1,e2⟩:=List.cons.inj e
  have hn:x.toNat≠10:=fun q=>hx (by
   have:x=10:=UInt8.toNat_inj.1 q
   rw[this];simp)
  have st:bw (mkB l) (vs,bs,u,(i:Int))=some (.nxt (vs,bs,u,((i+1:Nat):Int))):=by
   unfold bw
   simp only[]
   rw[bO,bM h1,if_pos rfl,if_pos (decide_eq_true (by omega)),atB h1,e1]
   simp only[aa]
   rw[if_pos (by rw[bne_iff_ne];omega),af (by omega)];rfl
  rw[ak,show k+(a.length+1)=(k+a.length)+1 by omega,az,st]
  show az _ (k+a.length) _=_
  rw[EG hl a r (i+1) k (fun q=>hx (bf _ q)) e2 h1,show i+1+a.length=i+(a.length+1) by omega]
theorem V6 {l:List UInt8} (hl:l.length<=4000): ∀(m p:Nat) (vs:List Int) (bs:List (List ChT)),l.length - p<m->p<=l.length->vs.length<=p->ScOk vs bs->totL vs bs vs.length<=p-> ∃(r:List Int) (q:List (List ChT)) (n:Nat),(∀k,l.length - p+1<=k->(az (bw (mkB l)) k (vs,bs,(p:Int),(p:Int))=some (.ret (r,q,(n:Int)))\/ ∃i,az (bw (mkB l)) k (vs,bs,(p:Int),(p:Int))=some (.brk (r,q,(n:Int),i)))/\az (ct (mkB l)) k (vs,bs,(p:Int))=some (.brk (r,q,(n:Int))))/\n<=l.length/\r.length<=n/\ScOk r q/\totL r q r.length<=n:=by
 intro m
 induction m with
 | zero=>intro p vs bs hm;omega
 | succ m ih =>
  intro p vs bs hm hp hv hb ht
  have hbl:=hb.1
  have hsl:rj (mkB l) (p:Int) (l.length:Int)=some (mkB (l.drop p)):=by
   rw[slB hp (aC _),List.take_length]
  rcases tq 10 (l.drop p) with k | ⟨a,t,e,k⟩
  ·refine ⟨vs,bs,p,fun j hj=>⟨.inr ⟨(l.length:Int),?_⟩,?_⟩,hp,hv,hb,ht⟩
   ·have hd:(l.drop p).length=l.length - p:=aS ..
    obtain ⟨j,rfl⟩: ∃j',j=(j'+1)+(l.drop p).length:=⟨j - 1 - (l.length - p),by omega⟩
    rw[EG hl (l.drop p) [] p (j+1) k (by simp) hp,az,hd,show p+(l.length - p)=l.length by omega]
    have:bw (mkB l) (vs,bs,(p:Int),(l.length:Int))=some (.brk (vs,bs,(p:Int),(l.length:Int))):=by
     unfold bw
     simp only[]
     rw[bO,if_neg (by simp)]
    rw[this]
   ·obtain ⟨j,rfl⟩: ∃j',j=j'+1:=⟨j - 1,by omega⟩
    have:ct (mkB l) (vs,bs,(p:Int))=some (.brk (vs,bs,(p:Int))):=by
     unfold ct
     simp only[]
     have ei:eR (mkB (l.drop p)) 10=some (-1):=by
      show some (Lib.indexByte _ 10)=_
      rw[eZ,Kn k]
     rw[bO,if_pos (decide_eq_true (by omega)),hsl]
     simp only[aa]
     rw[ei]
     simp only[aa]
     rw[if_pos (by decide)]
    rw[az,this]
  ·have hlen:(l.drop p).length=l.length - p:=aS ..
   rw[e,aq,ak] at hlen
   have hn:p+a.length<l.length:=by omega
   have hx:l[p+a.length] =10:=by
    have:(l.drop p)[a.length]? =some 10:=by rw[e];simp
    rw[List.getElem?_drop,List.getElem?_eq_getElem hn] at this
    exact ae this
   obtain ⟨r,r1,r2,h6,h9,h8⟩:=Pf ((l.take (p+a.length+1)).drop p) (by rw[aS,aB];omega)
   have es:rj (mkB l) (p:Int) ((p+a.length+1:Nat):Int)=some (mkB ((l.take (p+a.length+1)).drop p)):=slB (by omega) (by omega)
   have ei:eR (mkB (l.drop p)) 10=some (a.length:Int):=by
    show some (Lib.indexByte _ 10)=_
    rw[eZ,e,TC k]
   have w1:IntKind.i64.wrap ((IntKind.i64.wrap ((p:Int)+(a.length:Int)))+1)=((p+a.length+1:Nat):Int):=by
    rw[fg (n:=(p:Int)+(a.length:Int)) (by omega) (by omega),fg (by omega) (by omega)];omega
   have w2:IntKind.i64.wrap ((p:Int)+(IntKind.i64.wrap ((a.length:Int)+1)))=((p+a.length+1:Nat):Int):=by
    rw[fg (n:=(a.length:Int)+1) (by omega) (by omega),fg (by omega) (by omega)];omega
   have step:(bw (mkB l) (vs,bs,(p:Int),((p+a.length:Nat):Int))=some (.ret (vs,bs,(p:Int)))/\ct (mkB l) (vs,bs,(p:Int))=some (.brk (vs,bs,(p:Int))))\/(bw (mkB l) (vs,bs,(p:Int),((p+a.length:Nat):Int))=some (.nxt (vs++ [r.1],bs++ [r.2.1],((p+a.length+1:Nat):Int),((p+a.length+1:Nat):Int)))/\ct (mkB l) (vs,bs,(p:Int))=some (.nxt (vs++ [r.1],bs++ [r.2.1],((p+a.length+1:Nat):Int)))/\(0<vs.length->r.1=IntKind.i64.wrap (nth vs ((vs.length:Int) - 1)+1))/\r.2.2=true):=by
    have x1:b9 8 vs [r.1] =some (vs++ [r.1]):=aL (by simp only[ak,aF];omega)
    have x2:b9 24 bs [r.2.1] =some (bs++ [r.2.1]):=aL (by simp only[ak,aF];omega)
    unfold bw ct
    simp only[]
    rw[bO,bM hn,if_pos rfl,if_pos (decide_eq_true (by omega)),if_pos (decide_eq_true (by omega)),atB hn,hx,hsl]
    simp only[aa]
    rw[if_neg (by decide),ei,af (show p+a.length<9223372036854775807 by omega),es]
    simp only[aa]
    rw[r1,if_neg (by simp),w1,w2,es]
    simp only[aa]
    rw[r2]
    simp only[aa]
    by_cases c1:r.2.2=true
    ·rw[if_pos c1,if_pos c1]
     by_cases c2:decide ((vs.length:Int)>0)=true
     ·rw[if_pos c2,if_pos c2]
      have h0:0<vs.length:=by simpa using c2
      rw[pS (by omega),aG (xs:=vs) (by omega) (by omega)]
      simp only[aa]
      by_cases c3:(r.1 !=IntKind.i64.wrap (nth vs ((vs.length:Int) - 1)+1))=true
      ·rw[if_pos c3,if_pos c3];exact .inl ⟨rfl,rfl⟩
      ·rw[if_neg c3,if_neg c3,x1,x2];exact .inr ⟨rfl,rfl,(fun _=>by simpa using c3),c1⟩
     ·rw[if_neg c2,if_neg c2,x1,x2];exact .inr ⟨rfl,rfl,(fun h=>absurd (decide_eq_true (show (vs.length:Int)>0 by omega)) c2),c1⟩
    ·rw[if_neg c1,if_neg c1];exact .inl ⟨rfl,rfl⟩
   rcases step with ⟨s1,s2⟩ | ⟨s1,s2,s3,s4⟩
   ·refine ⟨vs,bs,p,fun j hj=>⟨.inl ?_,?_⟩,hp,hv,hb,ht⟩
    ·obtain ⟨j,rfl⟩: ∃j',j=(j'+1)+a.length:=⟨j - 1 - a.length,by omega⟩
     rw[EG hl a (10::t) p (j+1) k e hp,az,s1]
    ·obtain ⟨j,rfl⟩: ∃j',j=j'+1:=⟨j - 1,by omega⟩
     rw[az,s2]
   ·have hT:totL (vs++ [r.1]) (bs++ [r.2.1]) (vs++ [r.1]).length<=p+a.length+1:=by
     rw[Pe hbl,h8 s4,aS,aB];omega
    obtain ⟨R,Q,n,h1,h2,h3,h4⟩:=ih (p+a.length+1) (vs++ [r.1]) (bs++ [r.2.1]) (by omega) (by omega) (by simp;omega) (hb.push h6 h9 s3) hT
    refine ⟨R,Q,n,fun j hj=>⟨?_,?_⟩,h2,h3,h4⟩
    ·obtain ⟨j,rfl⟩: ∃j',j=(j'+1)+a.length:=⟨j - 1 - a.length,by omega⟩
     rw[EG hl a (10::t) p (j+1) k e hp,az,s1]
     exact (h1 j (by omega)).1
    ·obtain ⟨j,rfl⟩: ∃j',j=j'+1:=⟨j - 1,by omega⟩
     rw[az,s2]
     exact (h1 j (by omega)).2
theorem G7 (l:List UInt8) (hl:l.length<=1000000000): ∃(r:List Int) (q:List (List ChT)) (n:Nat),m_s_ScanLog (mkB l)=some (r,q,(n:Int))/\m_i_ScanLog (mkB l)=some (r,q,(n:Int))/\n<=l.length/\r.length<=4000/\ScOk r q/\totL r q r.length<=n:=by
 unfold m_s_ScanLog m_i_ScanLog
 by_cases h:l.length<=4000
 ·obtain ⟨r,q,n,h1,h2,h3,h4⟩:=V6 h (l.length+1) 0 [] [] (by omega) (by omega) (by simp) ⟨rfl,fun b hb=>(by cases hb),fun b hb=>(by cases hb)⟩ (Nat.zero_le _)
  obtain ⟨k1,k2⟩:=h1 aW (dK _ (by omega))
  have k2:az (ct (mkB l)) aW (([] :List Int),([] :List (List ChT)),0)=some (.brk (r,q,(n:Int))):=k2
  refine ⟨r,q,n,?_,?_,h2,by omega,h4⟩
  ·rcases k1 with k1 | ⟨i,k1⟩
   ·have k1:az (bw (mkB l)) aW (([] :List Int),([] :List (List ChT)),0,0)=_:=k1
    rw[cJ k1]
   ·have k1:az (bw (mkB l)) aW (([] :List Int),([] :List (List ChT)),0,0)=_:=k1
    rw[ax k1]
  ·rw[ax k2]
 ·have hf:=dK 100 (by omega)
  obtain ⟨k,hk⟩: ∃k,aW=k+1:=⟨aW - 1,by omega⟩
  have k1:az (bw (mkB l)) aW (([] :List Int),([] :List (List ChT)),0,0)=some (.brk ([],[],0,0)):=by
   rw[hk,az]
   have:bw (mkB l) (([] :List Int),([] :List (List ChT)),0,0)=some (.brk ([],[],0,0)):=by
    unfold bw
    simp only[]
    rw[bO,if_pos (decide_eq_true (by omega)),if_neg (by simp;omega)]
   rw[this]
  have k2:az (ct (mkB l)) aW (([] :List Int),([] :List (List ChT)),0)=some (.brk ([],[],0)):=by
   rw[hk,az]
   have:ct (mkB l) (([] :List Int),([] :List (List ChT)),0)=some (.brk ([],[],0)):=by
    unfold ct
    simp only[]
    rw[bO,if_neg (by simp;omega)]
   rw[this]
  rw[ax k1,ax k2]
  exact ⟨[],[],0,rfl,rfl,by omega,by simp,⟨rfl,fun b hb=>(by cases hb),fun b hb=>(by cases hb)⟩,aC _⟩
end D
namespace D
open Go.RowKit
abbrev GrT:=(List Int)×Yq1 
theorem XR {R:Type} {f:Int->Option (Out R Int)} (N:Nat) (p:Nat->Prop) [DecidablePred p] (r:R) (hN:N<=9223372036854775807)
  (h: ∀i:Nat,i<N->f (i:Int)=some (if p i then .nxt ((i+1:Nat):Int) else .ret r)) (he:f (N:Int)=some (.brk (N:Int))) :
  (az f aW 0=some (.brk (N:Int))/\ ∀i,i<N->p i)\/(az f aW 0=some (.ret r)/\ ¬ ∀i,i<N->p i):=by
 obtain ⟨o,e,hq⟩:=cV (f:=f) (fun i s=>s=(i:Int)/\ ∀j:Nat,j<i->p j) (fun o=>(o= .brk (N:Int)/\ ∀i,i<N->p i)\/(o= .ret r/\ ¬ ∀i,i<N->p i)) N (s:=0) (by
  rintro i s hi ⟨rfl,hp⟩
  by_cases hl:i<N
  ·by_cases c:p i
   ·refine .inl ⟨hl,_,by rw[h i hl,if_pos c],rfl,fun j hj=>?_⟩
    by_cases e:j=i
    ·subst e;exact c
    ·exact hp j (by omega)
   ·exact .inr ⟨_,by rw[h i hl,if_neg c],(fun s' e=>by cases e),.inr ⟨rfl,fun hx=>c (hx i hl)⟩⟩
  ·obtain rfl:i=N:=by omega
   exact .inr ⟨_,he,(fun s' e=>by cases e),.inl ⟨rfl,hp⟩⟩) ⟨rfl,by omega⟩ (ub hN)
 rcases hq with ⟨rfl,hq⟩ | ⟨rfl,hq⟩
 ·exact .inl ⟨e,hq⟩
 ·exact .inr ⟨e,hq⟩
structure GOk (g:GrT):Prop where
 n1:1<=g.1.length
 n5:g.1.length<=5
 m:g.2.length<=12
 val: ∀v∈g.1,0<=v/\v<=2
 edge: ∀e∈g.2,(0<=e.2.1/\e.2.1<g.1.length)/\(0<=e.2.2.1/\e.2.2.1<g.1.length)/\0<=e.2.2.2/\e.2.2.2<=2
 asc: ∀i:Nat,i+1<g.2.length->(nth g.2 i).1<(nth g.2 ((i+1:Nat):Int)).1
def edgeP (e:Int×Int×Int×Int) (n:Int):Prop:=(1<=e.1/\e.1<=99)/\(0<=e.2.1/\e.2.1<=n - 1)/\(0<=e.2.2.1/\e.2.2.1<=n - 1)/\0<=e.2.2.2/\e.2.2.2<=2
instance (e n):Decidable (edgeP e n):=by unfold edgeP;infer_instance
theorem XS (e:Int×Int×Int×Int) {n:Nat} (hn:n<=1048576):jV e (n:Int)=some (decide (edgeP e n)):=by
 unfold jV edgeP
 simp only[IS,aa,pS (show n<=9223372036854775807 by omega)]
 by_cases c1:1<=e.1/\e.1<=99 <;> by_cases c2:0<=e.2.1/\e.2.1<=(n:Int) - 1 <;> by_cases c3:0<=e.2.2.1/\e.2.2.1<=(n:Int) - 1 <;> simp[c1,c2,c3]
theorem Sc (g:GrT) (h1:g.1.length<=1048576) (h2:g.2.length<=1048576): ∃b,cx g=some b/\(b=true->GOk g):=by
 unfold cx
 have k0:=XR (f:=dQ g) g.1.length (fun i=>0<=nth g.1 i/\nth g.1 i<=2) false (by omega) (fun i hi=>by
  unfold dQ
  rw[if_pos (by simp;omega),aG (by omega) (by omega)];simp only[aa,IS,decide_eq_true_eq]
  split
  ·rw[af (by omega)]
  ·rfl) (by unfold dQ;rw[if_neg (by simp)])
 have k1:=XR (f:=cZ g) g.2.length (fun i=>edgeP (nth g.2 i) g.1.length/\(0<i->(nth g.2 ((i:Int) - 1)).1<(nth g.2 i).1)) false (by omega) (fun i hi=>by
  unfold cZ
  rw[if_pos (by simp;omega),aG (by omega) (by omega)];simp only[aa]
  have e1:=XS (nth g.2 (i:Int)) h1
  have e1:jV ((nth g.2 (i:Int)).1,(nth g.2 (i:Int)).2.1,(nth g.2 (i:Int)).2.2.1,(nth g.2 (i:Int)).2.2.2) (g.1.length:Int)=_:=e1
  rw[e1];simp only[aa,decide_eq_true_eq]
  by_cases c1:edgeP (nth g.2 (i:Int)) g.1.length
  ·rw[if_pos c1]
   by_cases c2:0<i
   ·rw[if_pos (by omega),pS (by omega),aG (by omega) (by omega)];simp only[aa]
    by_cases c3:(nth g.2 ((i:Int) - 1)).1<(nth g.2 (i:Int)).1
    ·rw[if_neg (by omega),if_pos ⟨c1,fun _=>c3⟩,af (by omega)]
    ·rw[if_pos (by omega),if_neg (fun h=>c3 (h.2 c2))]
   ·rw[if_neg (by omega),if_pos ⟨c1,fun h=>absurd h c2⟩,af (by omega)]
  ·rw[if_neg c1,if_neg (fun h=>c1 h.1)]) (by unfold cZ;rw[if_neg (by simp)])
 rcases k0 with ⟨k0,j0⟩ | ⟨k0,j0⟩
 ·rw[ax k0]
  rcases k1 with ⟨k1,j1⟩ | ⟨k1,j1⟩
  ·rw[ax k1,IS];simp only[aa,decide_eq_true_eq]
   split
   ·rename_i c
    refine ⟨_,rfl,fun hb=>?_⟩
    have hb:=of_decide_eq_true hb
    refine ⟨by omega,by omega,by omega,fun v hv=>?_,fun e he=>?_,fun i hi=>?_⟩
    ·obtain ⟨i,hi,rfl⟩:=IL hv
     exact j0 i hi
    ·obtain ⟨i,hi,rfl⟩:=IL he
     obtain ⟨a1,a2,a3,a4⟩:=(j1 i hi).1
     exact ⟨⟨a2.1,by omega⟩,⟨a3.1,by omega⟩,a4⟩
    ·have:=(j1 (i+1) hi).2 (by omega)
     rwa [show (((i+1:Nat):Int) - 1)=(i:Int) from by omega] at this
   ·exact ⟨false,rfl,fun h=>by cases h⟩
  ·rw[cJ k1];exact ⟨false,rfl,fun h=>by cases h⟩
 ·rw[cJ k0];exact ⟨false,rfl,fun h=>by cases h⟩
end D
namespace D
open Go.RowKit
end D
namespace D
open Go.RowKit
section
variable {a:AutT} {n:Nat} (V:VA a n) (hn:n<=12)
include V hn
end
section
variable {a:AutT} {n:Nat} (V:VA a n) (hn:n<=12)
include V hn
end
section
variable {a:AutT} {n:Nat} (V:VA a n) (hn:n<=12)
include V
include hn
end
end D
namespace D
open Go.RowKit
section
variable {α:Type} {N:Nat} {F G:Nat->α}
end
abbrev EdT:=Int×Int×Int×Int
abbrev ArT:=(Int×Bool)×Int×Int
def inv (e:EdT):ArT:=((e.1,true),2*e.2.2.2+1,e.2.1)
end D
namespace D
open Go.RowKit
section
variable {g:GrT} {a:AutT} (G:GOk g) (V:VA a a.2.1.length) (hn:a.2.1.length<=12)
include G V hn
end
section
variable {g:GrT} {a:AutT} {F:Nat->List Int} {N:Nat}
end
section
variable {g:GrT} {a:AutT} (G:GOk g) (V:VA a a.2.1.length) (hn:a.2.1.length<=12)
include G V hn
end
end D
namespace D
open Go.RowKit
section
variable {a:AutT} {n:Nat} (V:VA a n) (hn:n<=12)
include V hn
end
section
variable {g:GrT} {a:AutT} (G:GOk g) (V:VA a a.2.1.length) (hn:a.2.1.length<=12)
include G V hn
end
end D
namespace D
open Go.RowKit
section
variable {nx:Int->List Int} {N:Nat} {v:Int} (hv:0<=v/\v<N) (hn: ∀x:Int,0<=x->x<N-> ∀y∈nx x,0<=y/\y<N)
include hv
include hn
end
end D
namespace D
open Go.RowKit
section
variable {nx:Int->List Int} {N:Nat} {v:Int} (hN:N<=60) (hv:0<=v/\v<N) (hn: ∀x:Int,0<=x->x<N-> ∀y∈nx x,0<=y/\y<N) (hl: ∀x,(nx x).length<=100000)
include hN hv hn hl
end
end D
namespace D
open Go.RowKit
end D
namespace D
open Go.RowKit
theorem Pg (g:GrT):gr g=cx g:=by
 have h0:nB g=dQ g:=rfl
 have h1:jN g=cZ g:=by
  funext s
  unfold jN cZ
  split
  ·cases hx:aQ g.2 s with
   | none=>rfl
   | some x=>rfl
  ·rfl
 unfold gr cx
 rw[h0,h1];rfl
def Zd (g:GrT) (a:AutT):Prop:=GOk g/\a.2.1.length<=12/\VA a a.2.1.length
section
variable {g:GrT} {a:AutT} (H:Zd g a)
include H
end
section
variable {g:GrT} {a:AutT} (H:Zd g a)
include H
end
section
variable {g:GrT} {a:AutT} (H:Zd g a) {x:Int} (hx:0<=x/\x<g.1.length)
include H hx
end
end D
namespace D
open Go.RowKit
abbrev Tok:=Int×Int×Int×Int
def ar (t:Tok):Int:=
 if t.1=1\/t.1=2 then (if t.2.1=0/\t.2.2.1=0/\t.2.2.2=0 then 0 else -1)
 else if t.1=3 then (if (0<=t.2.1/\t.2.1<=8)/\t.2.2.1=0/\t.2.2.2=0 then 0 else -1)
 else if t.1=4\/t.1=5 then (if t.2.1=0/\t.2.2.1=0/\t.2.2.2=0 then 2 else -1)
 else if t.1=6 then (if t.2.1=0/\t.2.2.1=0/\t.2.2.2=0 then 1 else -1)
 else if t.1=7 then (if t.2.1=0/\(0<=t.2.2.1/\t.2.2.1<=t.2.2.2)/\(1<=t.2.2.2/\t.2.2.2<=3) then 1 else -1)
 else -1
theorem Sd (x:Int):l6 x=some (decide (0<=x/\x<=8)):=by unfold l6;rw[O3];rfl
theorem Se (x:Int):jW x=some (decide (0<=x/\x<=8)):=by unfold jW;rw[IS];rfl
theorem ZX (t:Tok):nD t=some (ar t):=by
 obtain ⟨k,l,lo,hi⟩:=t
 unfold nD ar
 simp only[Sd,O3,aa]
 by_cases h1:k=1
 ·subst h1;simp;grind
 by_cases h2:k=2
 ·subst h2;simp;grind
 by_cases h3:k=3
 ·subst h3;simp;grind
 by_cases h4:k=4
 ·subst h4;simp;grind
 by_cases h5:k=5
 ·subst h5;simp;grind
 by_cases h6:k=6
 ·subst h6;simp;grind
 by_cases h7:k=7
 ·subst h7;simp;grind
 simp[h1,h2,h3,h4,h5,h6,h7]
theorem XT (t:Tok):qo t=some (decide (0<=ar t)):=by
 obtain ⟨k,l,lo,hi⟩:=t
 unfold qo ar
 simp only[Se,IS,aa]
 by_cases h1:k=1
 ·subst h1;simp;grind
 by_cases h2:k=2
 ·subst h2;simp;grind
 by_cases h3:k=3
 ·subst h3;simp only[]
  by_cases a:0<=l/\l<=8 <;> by_cases b:lo=0 <;> by_cases c:hi=0 <;> simp[a,b,c]
 by_cases h4:k=4
 ·subst h4;simp;grind
 by_cases h5:k=5
 ·subst h5;simp;grind
 by_cases h6:k=6
 ·subst h6;simp;grind
 by_cases h7:k=7
 ·subst h7;simp only[]
  by_cases a:l=0 <;> by_cases b:0<=lo/\lo<=hi <;> by_cases c:1<=hi/\hi<=3 <;> simp[a,b,c]
 simp[h1,h2,h3,h4,h5,h6,h7]
theorem wt (t:Tok): -1<=ar t/\ar t<=2:=by
 unfold ar
 grind
theorem n8 {t:Tok} (h:0<=ar t):(ar t=2/\(t.1=4\/t.1=5))\/(ar t=1/\(t.1=6\/t.1=7))\/(ar t=0/\(t.1=1\/t.1=2\/t.1=3)):=by
 unfold ar at h⊢
 grind
theorem Bp {t:Tok} (h:0<=ar t) (k:t.1=7):(0<=t.2.2.1/\t.2.2.1<=t.2.2.2)/\(1<=t.2.2.2/\t.2.2.2<=3):=by
 unfold ar at h
 grind
mutual
def flat:Tr Tok->List Tok
 | .nil=>[]
 | .node t ks=>jR ks++ [t]
def jR:List (Tr Tok)->List Tok
 | [] =>[]
 | k::ks=>flat k++jR ks
end
inductive WT:Tr Tok->Prop
 | node {t:Tok} {ks:List (Tr Tok)} :ar t=(ks.length:Int)->(∀k,k∈ks->WT k)->WT (.node t ks)
theorem pU: ∀(a b:List (Tr Tok)),jR (a++b)=jR a++jR b
 | [],b=>rfl
 | k::a,b=>by rw[List.cons_append,jR,jR,pU a b,ai]
theorem mo (x:Tr Tok):jR [x] =flat x:=by rw[jR,jR,List.append_nil]
theorem Ph (x y:Tr Tok):jR [x,y] =flat x++flat y:=by rw[jR,mo]
theorem WT.cases {x:Tr Tok} (h:WT x):(∃t,x= .node t [] /\ar t=0)\/(∃t a,x= .node t [a] /\ar t=1/\WT a)\/ ∃t a b,x= .node t [a,b] /\ar t=2/\WT a/\WT b:=by
 cases h with
 | @node t ks h1 h2 =>
  have:=(wt t).2
  match ks,h1,h2 with
  | [],h1,h2=>exact .inl ⟨t,rfl,h1⟩
  | [a],h1,h2=>exact .inr (.inl ⟨t,a,rfl,h1,h2 a (by simp)⟩)
  | [a,b],h1,h2=>exact .inr (.inr ⟨t,a,b,rfl,h1,h2 a (by simp),h2 b (by simp)⟩)
  | _::_::_::_,h1,h2=>simp at h1;omega
theorem WT.ind {p:Tr Tok->Prop} (h0: ∀t,ar t=0->p (.node t [])) (h1: ∀t a,ar t=1->WT a->p a->p (.node t [a])) (h2: ∀t a b,ar t=2->WT a->WT b->p a->p b->p (.node t [a,b])) {x:Tr Tok} (h:WT x):p x:=by
 induction h with
 | @node t ks e k ih =>
  have:=(wt t).2
  match ks,e,k,ih with
  | [],e,k,ih=>exact h0 t e
  | [a],e,k,ih=>exact h1 t a e (k a (by simp)) (ih a (by simp))
  | [a,b],e,k,ih=>exact h2 t a b e (k a (by simp)) (k b (by simp)) (ih a (by simp)) (ih b (by simp))
  | _::_::_::_,e,_,_=>simp at e;omega
theorem Ci (t:Tok):flat (.node t [])= [t]:=by rw[flat,jR];rfl
theorem EH (t:Tok) (a:Tr Tok):flat (.node t [a])=flat a++ [t]:=by rw[flat,mo]
theorem uS (t:Tok) (a b:Tr Tok):flat (.node t [a,b])=(flat a++flat b)++ [t]:=by rw[flat,Ph]
theorem WT.pos {x:Tr Tok} (h:WT x):1<=(flat x).length:=by
 cases h with
 | node h1 h2=>rw[flat];simp
def stp (s:List (Tr Tok)) (t:Tok):Option (List (Tr Tok)):=if ar t<0\/(s.length:Int)<ar t then none else some (s.take (s.length - (ar t).toNat)++ [.node t (s.drop (s.length - (ar t).toNat))])
def run:List (Tr Tok)->List Tok->Option (List (Tr Tok))
 | s,[] =>some s
 | s,t::l=>(stp s t).bind fun s'=>run s' l
theorem EI: ∀(a:List Tok) {b:List Tok} {s:List (Tr Tok)},run s (a++b)=(run s a).bind fun s'=>run s' b
 | [],b,s=>rfl
 | t::a,b,s=>by
  rw[List.cons_append,run,run]
  cases stp s t with
  | none=>rfl
  | some s'=>exact EI a
theorem wu {a:List Tok} {t:Tok} {s:List (Tr Tok)} :run s (a++ [t])=(run s a).bind fun s'=>stp s' t:=by
 rw[EI]
 congr 1
 funext s'
 rw[run]
 cases stp s' t <;> rfl
theorem TL: ∀ {l:List Tok} {s s':List (Tr Tok)},run s l=some s'->(∀k,k∈s->WT k)->(∀k,k∈s'->WT k)/\jR s'=jR s++l
 | [],s,s',h,hs=>by
  obtain rfl:=ae h
  exact ⟨hs,by simp⟩
 | t::l,s,s',h,hs=>by
  rw[run] at h
  unfold stp at h
  by_cases c:ar t<0\/(s.length:Int)<ar t
  ·rw[if_pos c] at h;cases h
  ·rw[if_neg c] at h
   have hlen:(s.drop (s.length - (ar t).toNat)).length=(ar t).toNat:=by rw[aS];omega
   obtain ⟨k1,k2⟩:=TL (show run _ l=some s' from h) fun k hk=>by
    rcases aI hk with hk | hk
    ·exact hs k (List.mem_of_mem_take hk)
    ·obtain rfl:=aw hk
     exact .node (by rw[hlen];omega) fun k hk=>hs k (List.mem_of_mem_drop hk)
   refine ⟨k1,?_⟩
   rw[k2,pU,mo,flat,<-ai,<-pU,List.take_append_drop]
   simp
theorem Sf {x:Tr Tok} (h:WT x): ∀s,run s (flat x)=some (s++ [x]):=by
 refine WT.ind (p:=fun x=> ∀s,run s (flat x)=some (s++ [x])) ?_ ?_ ?_ h
 ·intro t e s
  rw[Ci,run,stp,if_neg (by omega),e]
  simp[run]
 ·intro t a e _ ia s
  rw[EH,wu,ia]
  show stp (s++ [a]) t=_
  rw[stp,if_neg (by simp;omega),e]
  simp
 ·intro t a b e _ _ ia ib s
  rw[uS,wu,EI,ia]
  show ((run (s++ [a]) (flat b)).bind fun s'=>stp s' t)=_
  rw[ib]
  show stp (s++ [a] ++ [b]) t=_
  rw[stp,if_neg (by simp;omega),e]
  have:(s++ [a] ++ [b]).length - (2:Int).toNat=s.length:=by simp
  rw[this]
  simp
def isX (e:List Tok):Bool:=match run [] e with
 | some [_] =>true
 | _=>false
theorem Pi {e:List Tok} (h:isX e=true): ∃x,run [] e=some [x] /\WT x/\flat x=e:=by
 unfold isX at h
 split at h
 ·rename_i x hx
  obtain ⟨k1,k2⟩:=TL hx (fun k hk=>by cases hk)
  refine ⟨x,hx,k1 x (by simp),?_⟩
  rw[mo] at k2
  rw[k2];rfl
 ·cases h
theorem Pj {l:List Tok} : ∀ {s s':List (Tr Tok)},run s l=some s'->s'.length<=s.length+l.length:=by
 induction l with
 | nil=>intro s s' h;obtain rfl:=ae h;simp
 | cons t l ih =>
  intro s s' h
  rw[run] at h
  obtain ⟨s1,h1,h2⟩:=Option.bind_eq_some_iff.1 h
  have h3:=ih h2
  unfold stp at h1
  split at h1
  ·cases h1
  ·obtain rfl:=ae h1
   simp only[aq,aB,ak,aF] at h3⊢
   omega
theorem Bq {e:List Tok} {i:Nat} (h:i<e.length):e.take (i+1)=e.take i++ [nth e (i:Int)]:=by
 rw[List.take_succ_eq_append_getElem h,bX h]
theorem zu {e:List Tok} {i:Nat} (h:i<e.length) {st:List (Tr Tok)} (h1:run [] (e.take i)=some st) (h2:stp st (nth e (i:Int))=none):run [] e=none:=by
 have:run [] (e.take (i+1))=none:=by rw[Bq h,wu,h1];exact h2
 rw[<-List.take_append_drop (i+1) e,EI,this];rfl
theorem Si {e:List Tok} (he:e.length<=1048576):sX e=some (isX e):=by
 obtain ⟨o,eo,hq⟩:=cV (f:=ql e) (fun i s=> ∃st,s=((st.length:Int),(i:Int))/\run [] (e.take i)=some st) (fun o=>(o= .ret false/\run [] e=none)\/ ∃st,o= .brk ((st.length:Int),(e.length:Int))/\run [] e=some st) e.length (s:=(0,0)) (by
  rintro i s hi ⟨st,rfl,hst⟩
  have hl:=Pj hst
  simp only[aF,aB] at hl
  unfold ql
  simp only[dM]
  by_cases c:i<e.length
  ·rw[if_pos (by simp;omega),aG (by omega) (by omega)];simp only[aa]
   rw[ZX];simp only[aa]
   have hr:=wt (nth e (i:Int))
   by_cases c1:ar (nth e (i:Int))<0
   ·refine .inr ⟨_,by rw[if_pos (by simpa using c1)],(fun s' e=>by cases e),.inl ⟨rfl,zu c hst ?_⟩⟩
    rw[stp,if_pos (.inl c1)]
   ·rw[if_neg (by simpa using c1)]
    by_cases c2:ar (nth e (i:Int))>(st.length:Int)
    ·refine .inr ⟨_,by rw[if_pos (by simpa using c2)],(fun s' e=>by cases e),.inl ⟨rfl,zu c hst ?_⟩⟩
     rw[stp,if_pos (.inr c2)]
    ·rw[if_neg (by simpa using c2)]
     refine .inl ⟨c,_,rfl,st.take (st.length - (ar (nth e (i:Int))).toNat)++ [.node (nth e (i:Int)) (st.drop (st.length - (ar (nth e (i:Int))).toNat))],?_,?_⟩
     ·rw[fg (n:=(st.length:Int) - ar (nth e (i:Int))) (by omega) (by omega),fg (by omega) (by omega),af (by omega)]
      congr 1
      simp only[aq,aB,ak,aF]
      omega
     ·rw[Bq c,wu,hst]
      show stp st _=_
      rw[stp,if_neg (by omega)]
  ·obtain rfl:i=e.length:=by omega
   rw[List.take_of_length_le (by omega)] at hst
   exact .inr ⟨_,by rw[if_neg (by simp)],(fun s' e=>by cases e),.inr ⟨st,rfl,hst⟩⟩) ⟨[],rfl,rfl⟩ (ub (by omega))
 unfold sX
 rcases hq with ⟨rfl,h⟩ | ⟨st,rfl,h⟩
 ·rw[cJ eo];unfold isX;rw[h]
 ·rw[ax eo];unfold isX;rw[h]
  match st with
  | [] =>rfl
  | [_] =>rfl
  | _::_::_=>simp;omega
theorem Ze {t:Tok} (h:0<=ar t):(Option.bind ((if t.1==4 then (some (t.1==4)) else (some (t.1==5)):Option Bool)) (fun s3=>if s3 then (some 2) else (Option.bind ((if t.1==6 then (some (t.1==6)) else (some (t.1==7)):Option Bool)) (fun s4=>if s4 then (some 1) else (some 0)))):Option Int)=some (ar t):=by
 rcases n8 h with ⟨e,k | k⟩ | ⟨e,k | k⟩ | ⟨e,k | k | k⟩ <;> rw[e] <;> simp[k]
theorem V7 (t:Tok): ∃n:Int,(Option.bind ((if t.1==4 then (some (t.1==4)) else (some (t.1==5)):Option Bool)) (fun s3=>if s3 then (some 2) else (Option.bind ((if t.1==6 then (some (t.1==6)) else (some (t.1==7)):Option Bool)) (fun s4=>if s4 then (some 1) else (some 0)))):Option Int)=some n:=by
 by_cases h4:t.1=4
 ·exact ⟨2,by simp[h4]⟩
 by_cases h5:t.1=5
 ·exact ⟨2,by simp[h5]⟩
 by_cases h6:t.1=6
 ·exact ⟨1,by simp[h6]⟩
 by_cases h7:t.1=7
 ·exact ⟨1,by simp[h7]⟩
 exact ⟨0,by simp[h4,h5,h6,h7]⟩
def y6 (e:List Tok):Tr Tok:=match run [] e with
 | some [x] =>x
 | _=>.nil
theorem EJ {e:List Tok} (he:e.length<=1048576):ng e=some (y6 e):=by
 obtain ⟨o,eo,hq⟩:=cV (f:=qp e) (fun i s=> ∃st,s=(st,(i:Int))/\run [] (e.take i)=some st) (fun o=>(o= .ret Tr.nil/\run [] e=none)\/ ∃st,o= .brk (st,(e.length:Int))/\run [] e=some st) e.length (s:=([],0)) (by
  rintro i s hi ⟨st,rfl,hst⟩
  have hl:=Pj hst
  simp only[aF,aB] at hl
  unfold qp
  simp only[dM]
  by_cases c:i<e.length
  ·rw[if_pos (by simp;omega),aG (by omega) (by omega)];simp only[aa]
   have hr:=wt (nth e (i:Int))
   by_cases c1:ar (nth e (i:Int))<0
   ·obtain ⟨n,hn⟩:=V7 (nth e (i:Int))
    rw[hn];simp only[aa]
    rw[XT];simp only[aa]
    refine .inr ⟨_,by rw[if_neg (by simp;omega)],(fun s' e=>by cases e),.inl ⟨rfl,zu c hst ?_⟩⟩
    rw[stp,if_pos (.inl c1)]
   ·rw[Ze (by omega)];simp only[aa]
    rw[XT];simp only[aa]
    rw[if_pos (by simp;omega),fg (n:=(st.length:Int) - ar (nth e (i:Int))) (by omega) (by omega)]
    by_cases c2:ar (nth e (i:Int))>(st.length:Int)
    ·refine .inr ⟨_,by rw[if_pos (by simp;omega)],(fun s' e=>by cases e),.inl ⟨rfl,zu c hst ?_⟩⟩
     rw[stp,if_pos (.inr c2)]
    ·rw[if_neg (by simp;omega),show∀p:Prop,∀ [Decidable p],p->chk p=some () from fun p _ hp=>by unfold chk;rw[if_pos hp]]
     ·simp only[aa]
      have e1:((st.length:Int) - ar (nth e (i:Int))).toNat=st.length - (ar (nth e (i:Int))).toNat:=by omega
      rw[e1,aL (by simp;omega)];simp only[aa]
      rw[aL (by simp;omega)];simp only[aa,List.nil_append,af (show i<9223372036854775807 by omega)]
      refine .inl ⟨c,_,rfl,_,rfl,?_⟩
      rw[Bq c,wu,hst]
      show stp st _=_
      rw[stp,if_neg (by omega)]
     ·omega
  ·obtain rfl:i=e.length:=by omega
   rw[List.take_of_length_le (by omega)] at hst
   exact .inr ⟨_,by rw[if_neg (by simp)],(fun s' e=>by cases e),.inr ⟨st,rfl,hst⟩⟩) ⟨[],rfl,rfl⟩ (ub (by omega))
 unfold ng
 rcases hq with ⟨rfl,h⟩ | ⟨st,rfl,h⟩
 ·rw[cJ eo];unfold y6;rw[h]
 ·rw[ax eo];unfold y6;rw[h]
  match st with
  | [] =>rfl
  | [x] =>rfl
  | _::_::_ =>
   simp only
   rw[if_pos (by simp;omega)]
theorem xD {x:Tr Tok} (h:WT x):y6 (flat x)=x:=by unfold y6;rw[Sf h];rfl
theorem Sj {e:List Tok} (he:e.length<=1048576):sZ e=some (isX e):=by
 unfold sZ
 rw[EJ he];simp only[aa]
 congr 1
 by_cases h:isX e=true
 ·rw[h]
  obtain ⟨x,h1,h2,h3⟩:=Pi h
  have:y6 e=x:=by unfold y6;rw[h1]
  rw[this]
  cases h2 with
  | node _ _=>rfl
 ·have:y6 e= .nil:=by
   unfold y6
   unfold isX at h
   split
   ·rename_i x hx;rw[hx] at h;exact absurd rfl h
   ·rfl
  rw[this,Bool.eq_false_iff.2 h];rfl
theorem IU {e:List Tok} (he:e.length<=1048576):kC e=some (decide (e.length<=24)&&isX e):=by
 unfold kC
 rw[Si he]
 by_cases c:e.length<=24
 ·rw[if_pos (by simp;omega)];simp[c]
 ·rw[if_neg (by simp;omega)];simp[c]
theorem IV {e:List Tok} (he:e.length<=1048576):kF e=some (decide (e.length<=24)&&isX e):=by
 unfold kF
 rw[Sj he]
 by_cases c:e.length<=24
 ·rw[if_pos (by simp;omega)];simp[c]
 ·rw[if_neg (by simp;omega)];simp[c]
theorem chk_of {p:Prop} [Decidable p] (h:p):chk p=some ():=by unfold chk;rw[if_pos h]
theorem V8 {A:List Tok} {x:Tr Tok} (hx:WT x) (hl:(A++flat x).length<=1000000):gY (A++flat x)=some (A.length:Int):=by
 obtain ⟨s',e,ks,q1,q2,q3⟩: ∃s',az (lM (A++flat x)) aW (1,((A++flat x).length:Int))=some (.brk s')/\ ∃ks:List (Tr Tok),ks= [] /\s'.2=(A.length:Int)/\True:=by
  obtain ⟨o,eo,hq⟩:=cV (f:=lM (A++flat x)) (fun i s=> ∃ks:List (Tr Tok),(∀k,k∈ks->WT k)/\s=((ks.length:Int),(((A++jR ks).length:Nat):Int))/\i+(jR ks).length=(flat x).length/\(A++flat x).take (A++jR ks).length=A++jR ks) (fun o=> ∃s',o= .brk s'/\s'.2=(A.length:Int)) (flat x).length (s:=(1,((A++flat x).length:Int))) (by
   rintro i s hi ⟨ks,hw,rfl,hlen,htk⟩
   unfold lM
   simp only[dM]
   rcases List.eq_nil_or_concat ks with rfl | ⟨ks',y,rfl⟩
   ·refine .inr ⟨_,by rw[if_neg (by simp)],(fun s' e=>by cases e),_,rfl,?_⟩
    simp[jR]
   ·have hy:=hw y (by simp)
    cases hy with
    | @node t cs h1 h2 =>
     have hfl:jR (ks'++ [.node t cs])=jR (ks'++cs)++ [t]:=by rw[pU,mo,flat,pU,ai]
     rw[List.concat_eq_append,hfl] at hlen htk⊢
     simp only[aq,ak,aF] at hlen htk hl⊢
     rw[if_pos (by simp <;> omega)]
     have hpos:IntKind.i64.wrap (((A.length+((jR (ks'++cs)).length+1):Nat):Int) - 1)=((A.length+(jR (ks'++cs)).length:Nat):Int):=by
      rw[fg (by omega) (by omega)];omega
     have hget:nth (A++flat x) ((A.length+(jR (ks'++cs)).length:Nat):Int)=t:=by
      have hlt:A.length+(jR (ks'++cs)).length<(A++flat x).length:=by rw[aq];omega
      have e1:=congrArg (fun l:List Tok=>l[A.length+(jR (ks'++cs)).length]?) htk
      rw[List.getElem?_take_of_lt (by omega),List.getElem?_eq_getElem hlt,<-ai,List.getElem?_append_right (by rw[aq];omega),aq] at e1
      rw[bX hlt]
      simpa using e1
     rw[hpos,aG (by omega) (by simp only[aq];omega),hget];simp only[aa]
     rw[ZX,h1];simp only[aa]
     have hcl:(cs.length:Int)<=2:=by rw[<-h1];exact (wt t).2
     have hkl:ks'.length<=(jR (ks'++cs)).length+1000000:=by
      have: ∀l:List (Tr Tok),(∀k,k∈l->WT k)->l.length<=(jR l).length:=by
       intro l
       induction l with
       | nil=>intro _;simp
       | cons k l ih =>
        intro h
        have h1:=(h k (by simp)).pos
        have h2:=ih fun k hk=>h k (by simp[hk])
        rw[jR];simp only[ak,aq];omega
      have:=this ks' fun k hk=>hw k (by simp[hk])
      rw[pU,aq];omega
     refine .inl ⟨by omega,_,rfl,ks'++cs,fun k hk=>?_,?_,by omega,?_⟩
     ·rcases aI hk with hk | hk
      ·exact hw k (by simp[hk])
      ·exact h2 k hk
     ·rw[fg (n:=((ks'.length+1:Nat):Int) - 1) (by omega) (by omega),fg (by omega) (by omega)]
      congr 1
      (simp only[aq]) <;> omega
     ·have e1:=congrArg (List.take (A++jR (ks'++cs)).length) htk
      rw[List.take_take,Nat.min_eq_left (by rw[aq];omega),<-ai,List.take_left] at e1
      rw[aq] at e1
      exact e1) ⟨[x],fun k hk=>by (obtain rfl:=aw hk;exact hx),by rw[mo];rfl,by rw[mo];omega,by rw[mo,List.take_length]⟩ (ub (by rw[aq] at hl;omega))
  obtain ⟨s',rfl,h2⟩:=hq
  exact ⟨s',eo,[],rfl,h2,trivial⟩
 unfold gY
 rw[ax e,q2]
end D
namespace D
open Go.RowKit
instance trInh {α:Type} :Inhabited (Tr α):=⟨.nil⟩
def szX:Tr Tok->Int
 | .nil=>0
 | .node t ks=>min (szL t 1 ks) 100000
where szL (t:Tok) (acc:Int):List (Tr Tok)->Int
 | [] =>acc
 | k::ks=>szL t (acc+(if t.1=7 then (szX k+3)*t.2.2.2 else szX k)) ks
theorem e7 {x:Tr Tok} (h:WT x):1<=szX x/\szX x<=100000:=by
 refine WT.ind (p:=fun x=>1<=szX x/\szX x<=100000) ?_ ?_ ?_ h
 ·intro t _
  show 1<=min (1:Int) 100000/\min (1:Int) 100000<=100000
  omega
 ·intro t a e _ ih
  show 1<=min ((1:Int)+(if t.1=7 then (szX a+3)*t.2.2.2 else szX a)) 100000/\min ((1:Int)+(if t.1=7 then (szX a+3)*t.2.2.2 else szX a)) 100000<=100000
  split
  ·rename_i k
   have hr:=Bp (show 0<=ar t by omega) k
   have:0<=(szX a+3)*t.2.2.2:=Int.mul_nonneg (by omega) (by omega)
   omega
  ·omega
 ·intro t a b e _ _ iha ihb
  have k:t.1≠7:=by
   rcases n8 (show 0<=ar t by omega) with ⟨_,k⟩ | ⟨k,_⟩ | ⟨k,_⟩ <;> omega
  show 1<=min ((1:Int)+(if t.1=7 then (szX a+3)*t.2.2.2 else szX a)+(if t.1=7 then (szX b+3)*t.2.2.2 else szX b)) 100000/\min ((1:Int)+(if t.1=7 then (szX a+3)*t.2.2.2 else szX a)+(if t.1=7 then (szX b+3)*t.2.2.2 else szX b)) 100000<=100000
  rw[if_neg k,if_neg k]
  omega
theorem G8 {a h:Int} (h1:1<=a/\a<=100000) (h2:1<=h/\h<=3):IntKind.i64.wrap ((IntKind.i64.wrap (a+3))*h)=(a+3)*h:=by
 rw[fg (n:=a+3) (by omega) (by omega)]
 have k1:0<=(a+3)*h:=Int.mul_nonneg (by omega) (by omega)
 have k2:(a+3)*h<=100003*3:=Int.mul_le_mul (by omega) (by omega) (by omega) (by omega)
 exact fg (by omega) (by omega)
theorem Pm {a h:Int} (h1:1<=a/\a<=100000) (h2:1<=h/\h<=3):0<=(a+3)*h/\(a+3)*h<=300009:=by
 have k1:0<=(a+3)*h:=Int.mul_nonneg (by omega) (by omega)
 have k2:(a+3)*h<=100003*3:=Int.mul_le_mul (by omega) (by omega) (by omega) (by omega)
 omega
theorem pV {t:Tok} {ks:List (Tr Tok)} :Tr.get (.node t ks)=some (t,ks):=rfl
theorem xE {f:Tr Tok->Option Int} {t:Tok} {ks:List (Tr Tok)} {i:Nat} {acc:Int} (hi:i<ks.length) (hf:f (nth ks (i:Int))=some (szX (nth ks (i:Int)))) (hw:WT (nth ks (i:Int))) (ht:0<=ar t) (ha:0<=acc/\acc<=1000000) (hik:i<=1000000) :
  bI f (.node t ks) (t,ks) (acc,(i:Int))=some (.nxt (acc+(if t.1=7 then (szX (nth ks (i:Int))+3)*t.2.2.2 else szX (nth ks (i:Int))),((i+1:Nat):Int))):=by
 unfold bI
 simp only[pV]
 have hr:=e7 hw
 rw[if_pos (by simp <;> omega),aG (by omega) (by omega)];simp only[aa]
 by_cases k:t.1=7
 ·have h7:=Bp ht k
  have hm:=Pm hr h7.2
  rw[if_pos (by simpa using k),if_pos k,hf];simp only[aa]
  rw[G8 hr h7.2,fg (by omega) (by omega),af (by omega)]
 ·rw[if_neg (by simpa using k),if_neg k,hf];simp only[aa]
  rw[fg (by omega) (by omega),af (by omega)]
theorem zw {α:Type} [Inhabited α] {a:α} {l:List α} :nth (a::l) ((0:Nat):Int)=a:=rfl
theorem Pn {α:Type} [Inhabited α] {a b:α} {l:List α} :nth (a::b::l) ((1:Nat):Int)=b:=rfl
theorem V9 {x:Tr Tok} (h:WT x): ∀n,(flat x).length<=n->bR n x=some (szX x):=by
 refine WT.ind (p:=fun x=> ∀n,(flat x).length<=n->bR n x=some (szX x)) ?_ ?_ ?_ h
 ·intro t e n hn
  rw[Ci] at hn
  match n,hn with
  | n+1,_ =>
   rw[bR];simp only[pV,aa]
   have hL:az (bI (bR n) (.node t []) (t,[])) aW (1,0)=some (.brk (1,0)):=bh (f:=bI (bR n) (.node t []) (t,[])) (fun i=>(1,(i:Int))) 0 (fun i hi=>by omega) (by unfold bI;simp) (by unfold aW;omega)
   rw[ax hL]
   all_goals rfl
 ·intro t a e wa ih n hn
  rw[EH,aq] at hn
  match n,hn with
  | n+1,hn =>
   have hr:=e7 wa
   rw[bR];simp only[pV,aa]
   have hL:az (bI (bR n) (.node t [a]) (t,[a])) aW (1,0)=some (.brk (szX.szL t 1 [a],1)):=bh (f:=bI (bR n) (.node t [a]) (t,[a])) (fun i=>(szX.szL t 1 ([a].take i),(i:Int))) 1 (fun i hi=>by
    obtain rfl:i=0:=by omega
    exact xE (acc:=1) (i:=0) (by simp) (ih n (by simp at hn;omega)) wa (by omega) (by omega) (by omega)) (by unfold bI;simp) (by unfold aW;omega)
   rw[ax hL]
   all_goals rfl
 ·intro t a b e wa wb iha ihb n hn
  rw[uS,aq,aq] at hn
  match n,hn with
  | n+1,hn =>
   have hra:=e7 wa
   have hrb:=e7 wb
   have k:t.1≠7:=by
    rcases n8 (show 0<=ar t by omega) with ⟨_,k⟩ | ⟨k,_⟩ | ⟨k,_⟩ <;> omega
   rw[bR];simp only[pV,aa]
   have hL:az (bI (bR n) (.node t [a,b]) (t,[a,b])) aW (1,0)=some (.brk (szX.szL t 1 [a,b],2)):=bh (f:=bI (bR n) (.node t [a,b]) (t,[a,b])) (fun i=>(szX.szL t 1 ([a,b].take i),(i:Int))) 2 (fun i hi=>by
    have:i=0\/i=1:=by omega
    rcases this with rfl | rfl
    ·exact xE (acc:=1) (i:=0) (by simp) (iha n (by simp at hn;omega)) wa (by omega) (by omega) (by omega)
    ·exact xE (acc:=1+(if t.1=7 then (szX a+3)*t.2.2.2 else szX a)) (i:=1) (by simp) (ihb n (by simp at hn;omega)) wb (by omega) (by rw[if_neg k];omega) (by omega)) (by unfold bI;simp) (by unfold aW;omega)
   rw[ax hL]
   all_goals rfl
theorem nc {A:List Tok} {t:Tok} (h:A.length<=1000000):aQ (A++ [t]) (IntKind.i64.wrap (((A++ [t]).length:Int) - 1))=some t/\IntKind.i64.wrap (((A++ [t]).length:Int) - 1)=(A.length:Int):=by
 have e:IntKind.i64.wrap (((A++ [t]).length:Int) - 1)=(A.length:Int):=by
  rw[fg (by simp only[aq,ak,aF];omega) (by simp only[aq,ak,aF];omega)]
  simp only[aq,ak,aF];omega
 refine ⟨?_,e⟩
 rw[e,aG (by omega) (by simp only[aq,ak,aF];omega),bX (by simp)]
 simp
theorem ZY {t:Tok} (h:ar t=2):(if t.1==4 then (some (t.1==4)) else (some (t.1==5)):Option Bool)=some true:=by
 rcases n8 (show 0<=ar t by omega) with ⟨_,k | k⟩ | ⟨e,_⟩ | ⟨e,_⟩
 ·simp[k]
 ·simp[k]
 ·omega
 ·omega
theorem Sk {t:Tok} (h:ar t=1\/ar t=0):(if t.1==4 then (some (t.1==4)) else (some (t.1==5)):Option Bool)=some false:=by
 rcases n8 (show 0<=ar t by omega) with ⟨e,k⟩ | ⟨e,k | k⟩ | ⟨e,k | k | k⟩
 ·omega
 all_goals simp[k]
theorem XU {t:Tok} (h:ar t=0):(t.1==6)=false/\(t.1==7)=false:=by
 rcases n8 (show 0<=ar t by omega) with ⟨e,k⟩ | ⟨e,k | k⟩ | ⟨e,k | k | k⟩
 ·omega
 ·omega
 ·omega
 all_goals simp[k]
theorem Sl {t:Tok} (h:ar t=1):((t.1==6)=true/\t.1=6)\/((t.1==6)=false/\(t.1==7)=true/\t.1=7):=by
 rcases n8 (show 0<=ar t by omega) with ⟨e,k⟩ | ⟨e,k | k⟩ | ⟨e,k | k | k⟩
 ·omega
 ·left;simp[k]
 ·right;simp[k]
 all_goals omega
theorem Br {a b:Tr Tok} {t:Tok} (wb:WT b) (hl:((flat a++flat b)++ [t]).length<=1000000) :
  (((flat a++flat b)++ [t]).take ((((flat a++flat b).length:Nat):Int)).toNat)=flat a++flat b /\
  gY (flat a++flat b)=some (((flat a).length:Nat):Int) /\
  (((flat a++flat b)++ [t]).take ((((flat a).length:Nat):Int)).toNat)=flat a /\
  (flat a++flat b).drop ((((flat a).length:Nat):Int)).toNat=flat b:=by
 refine ⟨?_,V8 wb (by simp only[aq,ak,aF] at hl⊢;omega),?_,?_⟩
 ·rw[Int.toNat_natCast,List.take_left]
 ·rw[Int.toNat_natCast,ai,List.take_left]
 ·rw[Int.toNat_natCast,List.drop_left]
theorem XV {x:Tr Tok} (h:WT x): ∀n,(flat x).length<=n->(flat x).length<=1000000->dO n (flat x)=some (szX x):=by
 refine WT.ind (p:=fun x=> ∀n,(flat x).length<=n->(flat x).length<=1000000->dO n (flat x)=some (szX x)) ?_ ?_ ?_ h
 ·intro t e n hn hl
  rw[Ci] at hn hl⊢
  match n,hn with
  | n+1,_ =>
   have hk:=XU e
   rw[dO]
   have:=(nc (A:=[]) (t:=t) (by simp)).1
   rw[List.nil_append] at this
   rw[this];simp only[aa]
   rw[Sk (.inr e)];simp only[aa,hk.1,hk.2,Bool.false_eq_true,if_false]
   rfl
 ·intro t a e wa ih n hn hl
  rw[EH] at hn hl⊢
  simp only[aq,ak,aF] at hn hl
  match n,hn with
  | n+1,hn =>
   have hr:=e7 wa
   rw[dO]
   obtain ⟨l1,l2⟩:=nc (A:=flat a) (t:=t) (by omega)
   rw[l1];simp only[aa]
   rw[Sk (.inl e)];simp only[aa,Bool.false_eq_true,if_false]
   rw[l2,Int.toNat_natCast,List.take_left,chk_of (by simp only[aq,ak,aF];omega)];simp only[aa]
   rw[ih n (by omega) (by omega)];simp only[aa]
   rcases Sl e with ⟨k1,k2⟩ | ⟨k1,k2,k3⟩
   ·rw[if_pos k1,fg (by omega) (by omega)]
    show some (min 100000 (szX a+1))=some (min ((1:Int)+(if t.1=7 then (szX a+3)*t.2.2.2 else szX a)) 100000)
    rw[if_neg (by omega)]
    congr 1;omega
   ·have h7:=Bp (show 0<=ar t by omega) k3
    have hm:=Pm hr h7.2
    rw[if_neg (by simp[k1]),if_pos k2,G8 hr h7.2,fg (by omega) (by omega)]
    show some (min 100000 ((szX a+3)*t.2.2.2+1))=some (min ((1:Int)+(if t.1=7 then (szX a+3)*t.2.2.2 else szX a)) 100000)
    rw[if_pos k3]
    congr 1;omega
 ·intro t a b e wa wb iha ihb n hn hl
  rw[uS] at hn hl⊢
  obtain ⟨p1,p2,p3,p4⟩:=Br (a:=a) (t:=t) wb hl
  simp only[aq,ak,aF] at hn hl
  match n,hn with
  | n+1,hn =>
   have hra:=e7 wa
   have hrb:=e7 wb
   have k:t.1≠7:=by
    rcases n8 (show 0<=ar t by omega) with ⟨_,k⟩ | ⟨k,_⟩ | ⟨k,_⟩ <;> omega
   rw[dO]
   obtain ⟨l1,l2⟩:=nc (A:=flat a++flat b) (t:=t) (by rw[aq];omega)
   rw[l1];simp only[aa]
   rw[ZY e];simp only[aa,if_true]
   rw[l2,p1,p2,chk_of (by simp only[aq,ak,aF];omega)];simp only[aa]
   rw[chk_of (by simp only[aq,ak,aF];omega),p3,p4];simp only[aa]
   rw[iha n (by omega) (by omega),chk_of (by simp only[aq,ak,aF];omega)];simp only[aa]
   rw[ihb n (by have:=wa.pos;omega) (by omega)];simp only[aa]
   rw[fg (n:=szX a+szX b) (by omega) (by omega),fg (by omega) (by omega)]
   show some (min 100000 (szX a+szX b+1))=some (min ((1:Int)+(if t.1=7 then (szX a+3)*t.2.2.2 else szX a)+(if t.1=7 then (szX b+3)*t.2.2.2 else szX b)) 100000)
   rw[if_neg k,if_neg k]
   congr 1;omega
def Sn:Tr Tok:=.node (2,0,0,0) []
def IW (x:Tr Tok):Nat->Int->Tr Tok
 | 0,_=>Sn
 | h+1,low=>if 0<low then .node (4,0,0,0) [x,IW x h (max 0 (low - 1))] else .node (5,0,0,0) [.node (4,0,0,0) [x,IW x h (max 0 (low - 1))],Sn]
mutual
def rq:Tr Tok->Tr Tok
 | .nil=>.nil
 | .node t ks=>if t.1=7 then IW ((PY ks).headD .nil) t.2.2.2.toNat t.2.2.1 else .node t (PY ks)
def PY:List (Tr Tok)->List (Tr Tok)
 | [] =>[]
 | k::ks=>rq k::PY ks
end
theorem ar4:ar (4,0,0,0)=2:=by decide
theorem ar5:ar (5,0,0,0)=2:=by decide
theorem ar2:ar (2,0,0,0)=0:=by decide
theorem Po:WT Sn:=.node ar2 fun k hk=>by cases hk
theorem wv:flat Sn= [(2,0,0,0)]:=Ci _
theorem WT.two {t:Tok} {a b:Tr Tok} (h:ar t=2) (ha:WT a) (hb:WT b):WT (.node t [a,b]):=.node h fun k hk=>by
 rcases aA hk with rfl | hk
 ·exact ha
 ·obtain rfl:=aw hk
  exact hb
theorem WT.one {t:Tok} {a:Tr Tok} (h:ar t=1) (ha:WT a):WT (.node t [a]):=.node h fun k hk=>by
 obtain rfl:=aw hk
 exact ha
theorem IX {x:Tr Tok} (hx:WT x): ∀(h:Nat) (low:Int),WT (IW x h low)
 | 0,_=>Po
 | h+1,low=>by
  rw[IW]
  split
  ·exact .two ar4 hx (IX hx h _)
  ·exact .two ar5 (.two ar4 hx (IX hx h _)) Po
theorem EK (x:Tr Tok): ∀(h:Nat) (low:Int),(flat (IW x h low)).length<=((flat x).length+3)*h+1
 | 0,_=>by rw[IW,wv];simp
 | h+1,low=>by
  have ih:=EK x h (max 0 (low - 1))
  rw[IW]
  split
  ·rw[uS];simp only[aq,ak,aF]
   rw[Nat.mul_succ];omega
  ·rw[uS,uS,wv];simp only[aq,ak,aF]
   rw[Nat.mul_succ];omega
theorem YC {t:Tok} {a:Tr Tok} :rq (.node t [a])=if t.1=7 then IW (rq a) t.2.2.2.toNat t.2.2.1 else .node t [rq a]:=by rw[rq,PY,PY];rfl
theorem exp2 {t:Tok} {a b:Tr Tok} (h:t.1≠7):rq (.node t [a,b])= .node t [rq a,rq b]:=by rw[rq,if_neg h,PY,PY,PY]
theorem YD {t:Tok} (h:t.1≠7):rq (.node t [])= .node t []:=by rw[rq,if_neg h,PY]
theorem no7 {t:Tok} (h:ar t=2\/ar t=0):t.1≠7:=by
 rcases n8 (show 0<=ar t by omega) with ⟨_,k⟩ | ⟨k,_⟩ | ⟨_,k⟩ <;> omega
theorem TM {x:Tr Tok} (h:WT x):WT (rq x):=by
 refine WT.ind (p:=fun x=>WT (rq x)) ?_ ?_ ?_ h
 ·intro t e
  rw[YD (no7 (.inr e))]
  exact .node e fun k hk=>by cases hk
 ·intro t a e _ ih
  rw[YC]
  split
  ·exact IX ih _ _
  ·exact .one e ih
 ·intro t a b e _ _ iha ihb
  rw[exp2 (no7 (.inl e))]
  exact .two e iha ihb
theorem EL {x:Tr Tok} (h:WT x):szX x<100000->((flat (rq x)).length:Int)<=szX x:=by
 refine WT.ind (p:=fun x=>szX x<100000->((flat (rq x)).length:Int)<=szX x) ?_ ?_ ?_ h
 ·intro t e _
  rw[YD (no7 (.inr e)),Ci]
  show (1:Int)<=min 1 100000
  omega
 ·intro t a e wa ih hs
  have hr:=e7 wa
  have hs':min ((1:Int)+(if t.1=7 then (szX a+3)*t.2.2.2 else szX a)) 100000<100000:=hs
  show _<=min ((1:Int)+(if t.1=7 then (szX a+3)*t.2.2.2 else szX a)) 100000
  rw[YC]
  by_cases k:t.1=7
  ·rw[if_pos k] at hs'⊢
   rw[if_pos k]
   have h7:=Bp (show 0<=ar t by omega) k
   have hge:szX a+3<=(szX a+3)*t.2.2.2:=by
    have:=Int.mul_le_mul_of_nonneg_left (c:=szX a+3) h7.2.1 (by omega)
    omega
   have h1:=ih (by omega)
   have h2:=EK (rq a) t.2.2.2.toNat t.2.2.1
   have h3:(((flat (rq a)).length+3)*t.2.2.2.toNat:Int)<=(szX a+3)*t.2.2.2:=by
    rw[Int.toNat_of_nonneg (by omega)]
    exact Int.mul_le_mul_of_nonneg_right (by omega) (by omega)
   have h4:((flat (IW (rq a) t.2.2.2.toNat t.2.2.1)).length:Int)<=(((flat (rq a)).length+3)*t.2.2.2.toNat:Int)+1:=by exact_mod_cast h2
   omega
  ·rw[if_neg k] at hs'⊢
   rw[if_neg k,EH]
   have h1:=ih (by omega)
   simp only[aq,ak,aF]
   omega
 ·intro t a b e wa wb iha ihb hs
  have hra:=e7 wa
  have hrb:=e7 wb
  have k:=no7 (.inl e)
  have hs':min ((1:Int)+(if t.1=7 then (szX a+3)*t.2.2.2 else szX a)+(if t.1=7 then (szX b+3)*t.2.2.2 else szX b)) 100000<100000:=hs
  show _<=min ((1:Int)+(if t.1=7 then (szX a+3)*t.2.2.2 else szX a)+(if t.1=7 then (szX b+3)*t.2.2.2 else szX b)) 100000
  rw[if_neg k,if_neg k] at hs'⊢
  rw[exp2 k,uS]
  have h1:=iha (by omega)
  have h2:=ihb (by omega)
  simp only[aq,ak,aF]
  omega
theorem C4 {x:Tr Tok} : ∀(h n:Nat) (low:Int),h<n->h<=3->0<=low->low<=3->jX n x low (h:Int)=some (IW x h low)
 | 0,n+1,low,_,_,_,_=>by
  rw[jX,if_pos (by rfl)];rfl
 | h+1,n+1,low,h1,h2,h3,h4=>by
  rw[jX,if_neg (by simp;omega),fg (n:=low - 1) (by omega) (by omega),fg (n:=((h+1:Nat):Int) - 1) (by omega) (by omega)]
  rw[show ((h+1:Nat):Int) - 1=(h:Int) from by omega,C4 h n (max 0 (low - 1)) (by omega) (by omega) (by omega) (by omega)];simp only[aa]
  rw[IW]
  by_cases c:0<low
  ·rw[if_pos (by simpa using c),if_pos c]
  ·rw[if_neg (by simpa using c),if_neg c];rfl
theorem Kq {a b:List Tok} {t:Tok} (h:a.length+b.length<=1000000):lf a b t=some ((a++b)++ [t]):=by
 unfold lf gB
 rw[aL (by simp only[aq,ak,aF];omega)];simp only[aa,List.nil_append]
 rw[aL (by omega)];simp only[aa]
 rw[aL (by simp only[aq,ak,aF];omega)];rfl
theorem Pp {x:Tr Tok} : ∀(h n:Nat) (low:Int),h<n->h<=3->0<=low->low<=3->(flat x).length<=100000->jU n (flat x) low (h:Int)=some (flat (IW x h low))
 | 0,n+1,low,_,_,_,_,_=>by
  rw[jU,if_pos (by rfl),IW,wv];rfl
 | h+1,n+1,low,h1,h2,h3,h4,h5=>by
  rw[jU,if_neg (by simp;omega),fg (n:=low - 1) (by omega) (by omega),fg (n:=((h+1:Nat):Int) - 1) (by omega) (by omega)]
  rw[show ((h+1:Nat):Int) - 1=(h:Int) from by omega,Pp h n (max 0 (low - 1)) (by omega) (by omega) (by omega) (by omega) h5];simp only[aa]
  have hl:=EK x h (max 0 (low - 1))
  have hl3:((flat x).length+3)*h<=100003*3:=Nat.mul_le_mul (by omega) (by omega)
  rw[Kq (by omega),IW];simp only[aa]
  by_cases c:0<low
  ·rw[if_pos (by simpa using c),if_pos c,uS]
  ·rw[if_neg (by simpa using c),if_neg c,uS,uS,wv]
   show (pn 2).bind _=_
   unfold pn;simp only[aa]
   rw[Kq (by simp only[aq,ak,aF];omega)];rfl
theorem wx:1000000000000<=gp:=by rw[Qd];unfold aW;omega
theorem So {x:Tr Tok} (h:WT x): ∀n,(flat x).length<=n->bB n x=some (rq x):=by
 have hF:=wx
 refine WT.ind (p:=fun x=> ∀n,(flat x).length<=n->bB n x=some (rq x)) ?_ ?_ ?_ h
 ·intro t e n hn
  rw[Ci] at hn
  have k:=no7 (.inr e)
  match n,hn with
  | n+1,_ =>
   rw[bB];simp only[pV,aa]
   rw[if_neg (by simpa using k),YD k]
   have hL:az (bp (bB n) (t,[])) aW (0,t.1,t.2.1,t.2.2.1,t.2.2.2,[])=some (.brk (0,t.1,t.2.1,t.2.2.1,t.2.2.2,[])):=bh (f:=bp (bB n) (t,[])) (fun i=>((i:Int),t.1,t.2.1,t.2.2.1,t.2.2.2,PY (([] :List (Tr Tok)).take i))) 0 (fun i hi=>by omega) (by unfold bp;simp) (by unfold aW;omega)
   rw[ax hL]
   all_goals rfl
 ·intro t a e wa ih n hn
  rw[EH,aq] at hn
  match n,hn with
  | n+1,hn =>
   have ia:=ih n (by simp at hn;omega)
   rw[bB,YC];simp only[pV,aa]
   rcases Sl e with ⟨k1,k2⟩ | ⟨k1,k2,k3⟩
   ·rw[if_neg (by simp;omega),if_neg (by omega)]
    have hL:az (bp (bB n) (t,[a])) aW (0,t.1,t.2.1,t.2.2.1,t.2.2.2,[])=some (.brk (1,t.1,t.2.1,t.2.2.1,t.2.2.2,[rq a])):=bh (f:=bp (bB n) (t,[a])) (fun i=>((i:Int),t.1,t.2.1,t.2.2.1,t.2.2.2,[rq a].take i)) 1 (fun i hi=>by
     obtain rfl:i=0:=by omega
     unfold bp
     simp only
     rw[if_pos (by simp),aG (by omega) (by simp),zw];simp only[aa]
     rw[ia];simp only[aa]
     rw[aL (by simp)];rfl) (by unfold bp;simp) (by unfold aW;omega)
    rw[ax hL]
    all_goals rfl
   ·have h7:=Bp (show 0<=ar t by omega) k3
    rw[if_pos k2,if_pos k3,show aQ [a] 0=some a from rfl];simp only[aa]
    rw[ia];simp only[aa]
    have:=C4 (x:=rq a) t.2.2.2.toNat gp t.2.2.1 (by omega) (by omega) (by omega) (by omega)
    rw[Int.toNat_of_nonneg (by omega)] at this
    rw[this];rfl
 ·intro t a b e wa wb iha ihb n hn
  rw[uS,aq,aq] at hn
  have k:=no7 (.inl e)
  match n,hn with
  | n+1,hn =>
   have ia:=iha n (by simp at hn;omega)
   have ib:=ihb n (by simp at hn;omega)
   rw[bB,exp2 k];simp only[pV,aa]
   rw[if_neg (by simpa using k)]
   have hL:az (bp (bB n) (t,[a,b])) aW (0,t.1,t.2.1,t.2.2.1,t.2.2.2,[])=some (.brk (2,t.1,t.2.1,t.2.2.1,t.2.2.2,[rq a,rq b])):=bh (f:=bp (bB n) (t,[a,b])) (fun i=>((i:Int),t.1,t.2.1,t.2.2.1,t.2.2.2,[rq a,rq b].take i)) 2 (fun i hi=>by
    have:i=0\/i=1:=by omega
    rcases this with rfl | rfl
    ·unfold bp
     simp only
     rw[if_pos (by simp),aG (by omega) (by simp),zw];simp only[aa]
     rw[ia];simp only[aa]
     rw[aL (by simp)];rfl
    ·unfold bp
     simp only
     rw[if_pos (by simp),aG (by omega) (by simp),Pn];simp only[aa]
     rw[ib];simp only[aa]
     rw[aL (by simp)];rfl) (by unfold bp;simp) (by unfold aW;omega)
   rw[ax hL]
   all_goals rfl
theorem Pq {x:Tr Tok} (h:WT x): ∀n out,(flat x).length<=n->out.length+(flat x).length<=1000000->bz n x out=some (out++flat x):=by
 refine WT.ind (p:=fun x=> ∀n out,(flat x).length<=n->out.length+(flat x).length<=1000000->bz n x out=some (out++flat x)) ?_ ?_ ?_ h
 ·intro t e n out hn hl
  rw[Ci] at hn hl⊢
  simp only[ak,aF] at hl
  match n,hn with
  | n+1,_ =>
   rw[bz];simp only[pV,aa]
   have hL:az (bd (bz n) (t,[])) aW (0,out)=some (.brk (0,out)):=bh (f:=bd (bz n) (t,[])) (fun i=>((i:Int),out)) 0 (fun i hi=>by omega) (by unfold bd;simp) (by unfold aW;omega)
   rw[ax hL]
   simp only
   rw[aL (by simp;omega)];rfl
 ·intro t a e wa ih n out hn hl
  rw[EH] at hn hl⊢
  simp only[aq,ak,aF] at hn hl
  match n,hn with
  | n+1,hn =>
   rw[bz];simp only[pV,aa]
   have hL:az (bd (bz n) (t,[a])) aW (0,out)=some (.brk (1,out++flat a)):=bh (f:=bd (bz n) (t,[a])) (fun i=>((i:Int),if i=0 then out else out++flat a)) 1 (fun i hi=>by
    obtain rfl:i=0:=by omega
    unfold bd
    simp only
    rw[if_pos (by simp),aG (by omega) (by simp),zw];simp only[aa,if_true]
    rw[ih n _ (by omega) (by omega)];rfl) (by unfold bd;simp) (by unfold aW;omega)
   rw[ax hL]
   simp only
   rw[aL (by simp;omega)];simp
 ·intro t a b e wa wb iha ihb n out hn hl
  rw[uS] at hn hl⊢
  simp only[aq,ak,aF] at hn hl
  match n,hn with
  | n+1,hn =>
   rw[bz];simp only[pV,aa]
   have hL:az (bd (bz n) (t,[a,b])) aW (0,out)=some (.brk (2,(out++flat a)++flat b)):=bh (f:=bd (bz n) (t,[a,b])) (fun i=>((i:Int),if i=0 then out else if i=1 then out++flat a else (out++flat a)++flat b)) 2 (fun i hi=>by
    have:i=0\/i=1:=by omega
    rcases this with rfl | rfl
    ·unfold bd
     simp only
     rw[if_pos (by simp),aG (by omega) (by simp),zw];simp only[aa,if_true]
     rw[iha n _ (by omega) (by omega)];rfl
    ·unfold bd
     simp only
     rw[if_pos (by simp),aG (by omega) (by simp),Pn];simp only[aa,if_true]
     rw[ihb n _ (by omega) (by simp;omega)];rfl) (by unfold bd;simp) (by unfold aW;omega)
   rw[ax hL]
   simp only
   rw[aL (by simp;omega)];simp
theorem Sp {x:Tr Tok} (h:WT x): ∀n,(flat x).length<=n->(flat x).length<=1000000->szX x<=50000->cO n (flat x)=some (flat (rq x)):=by
 have hF:=wx
 refine WT.ind (p:=fun x=> ∀n,(flat x).length<=n->(flat x).length<=1000000->szX x<=50000->cO n (flat x)=some (flat (rq x))) ?_ ?_ ?_ h
 ·intro t e n hn hl hs
  rw[Ci] at hn hl⊢
  match n,hn with
  | n+1,_ =>
   have hk:=XU e
   rw[cO]
   have:=(nc (A:=[]) (t:=t) (by simp)).1
   rw[List.nil_append] at this
   rw[this];simp only[aa]
   rw[Sk (.inr e)];simp only[aa,hk.1,hk.2,Bool.false_eq_true,if_false]
   rw[YD (no7 (.inr e)),Ci]
 ·intro t a e wa ih n hn hl hs
  have hs':min ((1:Int)+(if t.1=7 then (szX a+3)*t.2.2.2 else szX a)) 100000<=50000:=hs
  rw[EH] at hn hl⊢
  simp only[aq,ak,aF] at hn hl
  match n,hn with
  | n+1,hn =>
   have hr:=e7 wa
   have hsa:szX a<=50000:=by
    by_cases k:t.1=7
    ·rw[if_pos k] at hs'
     have h7:=Bp (show 0<=ar t by omega) k
     have hge:szX a+3<=(szX a+3)*t.2.2.2:=by
      have:=Int.mul_le_mul_of_nonneg_left (c:=szX a+3) h7.2.1 (by omega)
      omega
     omega
    ·rw[if_neg k] at hs';omega
   have hla:=EL wa (by omega)
   rw[cO]
   obtain ⟨l1,l2⟩:=nc (A:=flat a) (t:=t) (by omega)
   rw[l1];simp only[aa]
   rw[Sk (.inl e)];simp only[aa,Bool.false_eq_true,if_false]
   rw[l2,Int.toNat_natCast,List.take_left,chk_of (by simp only[aq,ak,aF];omega)];simp only[aa]
   rw[ih n (by omega) (by omega) hsa,YC];simp only[aa]
   rcases Sl e with ⟨k1,k2⟩ | ⟨k1,k2,k3⟩
   ·rw[if_pos k1,if_neg (by omega),Kq (by simp;omega),EH];simp
   ·have h7:=Bp (show 0<=ar t by omega) k3
    rw[if_neg (by simp[k1]),if_pos k2,if_pos k3]
    have:=Pp (x:=rq a) t.2.2.2.toNat gp t.2.2.1 (by omega) (by omega) (by omega) (by omega) (by omega)
    rw[Int.toNat_of_nonneg (by omega)] at this
    rw[this];rfl
 ·intro t a b e wa wb iha ihb n hn hl hs
  have k:=no7 (.inl e)
  have hs':min ((1:Int)+(if t.1=7 then (szX a+3)*t.2.2.2 else szX a)+(if t.1=7 then (szX b+3)*t.2.2.2 else szX b)) 100000<=50000:=hs
  rw[if_neg k,if_neg k] at hs'
  rw[uS] at hn hl⊢
  obtain ⟨p1,p2,p3,p4⟩:=Br (a:=a) (t:=t) wb hl
  simp only[aq,ak,aF] at hn hl
  match n,hn with
  | n+1,hn =>
   have hra:=e7 wa
   have hrb:=e7 wb
   have hla:=EL wa (by omega)
   have hlb:=EL wb (by omega)
   rw[cO]
   obtain ⟨l1,l2⟩:=nc (A:=flat a++flat b) (t:=t) (by rw[aq];omega)
   rw[l1];simp only[aa]
   rw[ZY e];simp only[aa,if_true]
   rw[l2,p1,p2,chk_of (by simp only[aq,ak,aF];omega)];simp only[aa]
   rw[chk_of (by simp only[aq,ak,aF];omega),p3,p4];simp only[aa]
   rw[iha n (by omega) (by omega) (by omega),chk_of (by simp only[aq,ak,aF];omega)];simp only[aa]
   rw[ihb n (by have:=wa.pos;omega) (by omega) (by omega)];simp only[aa]
   rw[Kq (by omega),exp2 k,uS];rfl
def LQ (e:List Tok):List Tok×Bool:=
 if decide (e.length<=24)&&isX e then (if 5000<szX (y6 e) then ([],false) else (if 400<(flat (rq (y6 e))).length then ([],false) else (flat (rq (y6 e)),true))) else ([],false)
theorem IY {e:List Tok} (he:e.length<=1048576):lN e=some (LQ e)/\lS e=some (LQ e):=by
 have hF:=wx
 unfold lN lS LQ
 rw[IU he,IV he];simp only[aa]
 by_cases c:(decide (e.length<=24)&&isX e)=true
 ·rw[if_pos c,if_pos c,if_pos c,EJ he];simp only[aa]
  rw[aj] at c
  obtain ⟨x,h1,hw,rfl⟩:=Pi c.2
  have h24:(flat x).length<=24:=by simpa using c.1
  have hr:=e7 hw
  rw[xD hw,XV hw gp (by omega) (by omega),V9 hw gp (by omega)];simp only[aa]
  by_cases c2:5000<szX x
  ·have c2':decide (szX x>5000)=true:=by simpa using c2
   simp only[gt_iff_lt,c2,decide_true,if_true,and_self]
  ·have c2':decide (szX x>5000)=false:=by simpa using c2
   simp only[gt_iff_lt,c2,decide_false,if_false,Bool.false_eq_true]
   have hl:=EL hw (by omega)
   rw[Sp hw gp (by omega) (by omega) (by omega),So hw gp (by omega)];simp only[aa]
   unfold qq
   rw[Pq (TM hw) gp [] (by omega) (by simp;omega)];simp only[aa,List.nil_append]
   by_cases c3:400<(flat (rq x)).length
   ·have c3':decide (((flat (rq x)).length:Int)>400)=true:=decide_eq_true (by omega)
    simp only[c3',c3,decide_true,if_true,and_self]
   ·have c3':decide (((flat (rq x)).length:Int)>400)=false:=decide_eq_false (by omega)
    simp only[c3',c3,decide_false,if_false,Bool.false_eq_true,and_self]
 ·rw[if_neg c,if_neg c,if_neg c];exact ⟨rfl,rfl⟩
theorem Wa {e:List Tok} (h:(LQ e).2=true): ∃y,WT y/\(LQ e).1=flat y/\(flat y).length<=400:=by
 unfold LQ at h⊢
 split at h
 ·rename_i c
  rw[if_pos c]
  rw[aj] at c
  obtain ⟨x,h1,hw,rfl⟩:=Pi c.2
  rw[xD hw] at h⊢
  split at h
  ·cases h
  ·rename_i c2
   rw[if_neg c2]
   split at h
   ·cases h
   ·rename_i c3
    rw[if_neg c3]
    exact ⟨_,TM hw,rfl,by omega⟩
 ·cases h
end D
end Go.Proofs.YtcobhgbgllfniaaGreatDoor
