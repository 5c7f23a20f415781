/- FnExactRecoverEngine: for every input the law returns true and changes nothing that was there. Part 8 of 9. -/
import Derived.Test.YtodbpnpbhpeepaaGreatDoorEC6
set_option linter.unusedVariables false
set_option linter.unusedSimpArgs false
set_option linter.unnecessarySimpa false
set_option linter.unusedSectionVars false
set_option maxRecDepth 1000000
namespace Go.Proofs.YtodbpnpbhpeepaaGreatDoor
open Go.IntKind (i64)
namespace R
open Go.RowKit
open D
theorem Di:FOk Tryz.prog 152 vo:=fk [(216,tI),(217,xk)] ⟨zK,FD,trivial⟩ Tryz.func152 (.t (.two (.t (.loop [.s 1,.s 5] .no)) .no))
theorem Co:FOk Tryz.prog 92 tJ:=fk [(152,vo)] ⟨Di,trivial⟩ Tryz.func92 .no
theorem FE:FOk Tryz.prog 218 xl:=fk [] trivial Tryz.func218 (.t (.two (.t (.loop [.s 1,.s 5] .no)) .no))
theorem FF:FOk Tryz.prog 219 xm:=fk [(216,tI)] ⟨zK,trivial⟩ Tryz.func219 (.t (.two (.t (.loop [.s 1,.s 5] .no)) .no))
theorem xx:FOk Tryz.prog 153 pP:=fk [(218,xl),(219,xm)] ⟨FE,FF,trivial⟩ Tryz.func153 (.t (.two (.t (.loop [.s 1,.s 5] .no)) .no))
theorem Dj:FOk Tryz.prog 220 vp:=fk [] trivial Tryz.func220 (.t (.two (.t (.loop [.s 1,.s 5] .no)) .no))
theorem wq:FOk Tryz.prog 154 oZ:=fk [(220,vp)] ⟨Dj,trivial⟩ Tryz.func154 (.t (.two (.t (.loop [.s 1,.s 5] .no)) .no))
theorem Aj:FOk Tryz.prog 93 sd:=fk [(153,pP),(154,oZ)] ⟨xx,wq,trivial⟩ Tryz.func93 .no
theorem wt:FOk Tryz.prog 94 o0:=fk [] trivial Tryz.func94 (.t (.two (.t (.loop [.s 1,.s 5] .no)) .no))
theorem Dk:FOk Tryz.prog 36 vq:=fk [(92,tJ),(93,sd),(94,o0)] ⟨Co,Aj,wt,trivial⟩ Tryz.func36 .no
theorem qO:FOk Tryz.prog 6 qD:=fk [(9,qv),(10,qw),(19,zr),(20,zw),(21,zz),(35,vn),(36,vq)] ⟨yB,yD,H3,H6,H9,Dh,Dk,trivial⟩ Tryz.func6 .no
end R
namespace D
open Go.RowKit
theorem qP (x0:uj×Yq8×Yq7×ByteArray) (x1:ByteArray) (r:Bool) (hm:dG x0 x1=some r) {I:Hp} {w0:World} (v0_0:Value) (v0_1:Value) (v0_2:Value) (v0_3:Value) (r0_0:(ah 219 (aJ (ah 3 bd) (ah 316 (aJ bd (aJ bd (aJ bd bd)))))).rd I [v0_0] x0.1.2) (r0_1:(ah 221 (aJ bd (aJ (ah 4 ph) (ah 70 (ah 3 bd))))).rd I [v0_1] x0.2.1.1) (r0_2:(ah 227 (aJ bd (aJ (ah 353 (aJ bd (aJ bd (aJ bd bd)))) bd))).rd I [v0_2] x0.2.1.2) (r0_3:(ah 161 (aJ bd (aJ bd bd))).rd I [v0_3] x0.2.2.1) (hL:Lay Tryz.prog I):Con Tryz.prog 6 #[.agg #[.int .i64 x0.1.1,v0_0,v0_1,v0_2,v0_3,.string x0.2.2.2],.string x1] I w0 [] (fun v=>v= .bool r) (fun _=>[]):=fun w C hs =>
 ((R.qO).con rfl w0 I undef [.agg #[.int .i64 x0.1.1,v0_0,v0_1,v0_2,v0_3,.string x0.2.2.2],.string x1] (x0,(x1,())) r hL ⟨_,_,rfl,⟨[.int .i64 x0.1.1,v0_0,v0_1,v0_2,v0_3,.string x0.2.2.2],rfl,⟨_,_,rfl,⟨_,_,rfl,rfl,r0_0⟩,⟨_,_,rfl,⟨_,_,rfl,r0_1,r0_2⟩,⟨_,_,rfl,r0_3,rfl⟩⟩⟩⟩,⟨_,_,rfl,⟨[.string x1],rfl,rfl⟩,rfl⟩⟩ hm w C hs).mono fun e w' ⟨v,he,_,hst⟩=>by
  obtain ⟨h1,h2⟩:=R.wO (h1:=fun _=>rfl) (show St I w0 w' (Ch.own R.Ty.bool.rep [v] r::C) from hst)
  exact ⟨v,he,(List.cons.inj h1).1,h2⟩
end D
namespace D
open Go.RowKit
end D
namespace D
open Go.RowKit
def I64 (n:Int):Prop:= -9223372036854775808<=n/\n<=9223372036854775807
class Data (α:Type) where
 lim:α->Prop
 sm:α->Prop
instance:Data Int:=⟨I64,fun _=>True⟩
instance:Data Bool:=⟨fun _=>True,fun _=>True⟩
instance:Data ByteArray:=⟨fun s=>s.size<=9223372036854775807,fun s=>s.size<=1048576⟩
instance {α β:Type} [Data α] [Data β] :Data (α×β):=⟨fun x=>Data.lim x.1/\Data.lim x.2,fun x=>Data.sm x.1/\Data.sm x.2⟩
instance {α:Type} [Data α] :Data (List α):=⟨fun xs=>xs.length<=9223372036854775807/\ ∀x,x∈xs->Data.lim x,fun xs=>xs.length<=1048576/\ ∀x,x∈xs->Data.sm x⟩
structure Opens (P:Program) (t:TypeId) {α:Type} [Data α] (R:Rep α):Prop where
 out: ∀ {H:Type} (enc:TypeId×Value->H) (w:World) (fuel:Nat) (cs:List Value) (x:DataW H×List MemPlace),DataW.trod enc P w 0 (fun _=>true) true fuel t cs=some x-> ∃a:α,R.rd (hp w) cs a/\Data.lim a
theorem P0 {P:Program} {t:TypeId} (h:P.underlying t=some (.int .i64)):Opens P t bd:=by
 constructor
 intro H enc w fuel cs x hx
 obtain ⟨n,rfl,-,hw⟩:=DataW.trod_int h hx
 refine ⟨n,rfl,show I64 n from ?_⟩
 simp[Lit.wf,IntKind.min,IntKind.max,IntKind.signed,IntKind.bits] at hw
 unfold I64
 omega
theorem MZ {P:Program} {t:TypeId} (h:P.underlying t=some .bool):Opens P t ph:=by
 constructor
 intro H enc w fuel cs x hx
 obtain ⟨n,rfl,-⟩:=DataW.trod_bool h hx
 exact ⟨n,rfl,trivial⟩
theorem Ia {P:Program} {t:TypeId} (h:P.underlying t=some .string):Opens P t Et:=by
 constructor
 intro H enc w fuel cs x hx
 obtain ⟨n,rfl,-,hm⟩:=DataW.trod_string h hx
 exact ⟨n,rfl,show n.size<=_ by unfold maxLen at hm;omega⟩
theorem gQ {P:Program} {t e:TypeId} {α:Type} [Data α] {R:Rep α} {E:TypeId} (h:P.underlying t=some (.slice e)) (hc:P.cellsOf e=R.size) (h0:0<R.size) (he:Opens P e R):Opens P t (ah E R):=by
 constructor
 intro H enc w fuel cs x hx
 rcases Go.Deep.open_slice h hx with ⟨rfl,-⟩ | ⟨a,len,cap,m,n,D,Pl,rfl,-,hl,hm,hmm,-,hel⟩
 ·exact ⟨[],⟨none,0,rfl,by simp,.inl rfl⟩,Nat.zero_le _,fun x hx=>by cases hx⟩
 have hlm:m=cap:=by simpa using hmm
 subst hlm
 rw[hc] at hel
 by_cases hz:len=0
 ·subst hz
  exact ⟨[],⟨some a,m,rfl,by simp,.inl rfl⟩,Nat.zero_le _,fun x hx=>by cases hx⟩
 ·have hone: ∀i,i<len-> ∃c:List Value,∃y:α,c.length=R.size/\(∀j,j<R.size->w.cell? ((a.add (i*R.size)).add j)=c[j]?)/\R.rd (hp w) c y/\Data.lim y:=by
   intro i hi
   obtain ⟨c,h1,h2⟩:=hel i (by omega)
   obtain ⟨-,h3,h4⟩:=World.cells?_some h1
   obtain ⟨y,hy⟩:=he.out enc w _ _ _ h2
   exact ⟨c,y,h3,h4,hy⟩
  obtain ⟨c0,y0,hc0,hr0,-⟩:=hone 0 (by omega)
  have h00:=hr0 0 h0
  have hsome: ∃v,c0[0]? =some v:=⟨_,List.getElem?_eq_getElem (by omega)⟩
  obtain ⟨v,hv⟩:=hsome
  rw[hv] at h00
  have ha:(a.add (0*R.size)).add 0=a:=by simp[Addr.add]
  rw[ha] at h00
  obtain ⟨b,off,spot⟩:=a
  have hb: ∃ccs T fr,w.heap[b]? =some (.cells ccs T fr)/\spot=none:=by
   simp only[World.cell?] at h00
   split at h00
   ·rename_i ccs T fr heq
    cases spot with
    | none=>exact ⟨ccs,T,fr,heq,rfl⟩
    | some s=>simp at h00
   ·simp at h00
  obtain ⟨ccs,T,fr,hh,rfl⟩:=hb
  have hadd: ∀i j,(Addr.add ⟨b,off,none⟩ i).add j=⟨b,off+i+j,none⟩:=by
   intro i j
   by_cases h1:i=0 <;> by_cases h2:j=0 <;> simp[Addr.add,h1,h2,Nat.add_assoc]
  haveI:Inhabited α:=⟨y0⟩
  obtain ⟨X,hX⟩:=Go.Deep.choose_lt (α:=α) (n:=len) (p:=fun i y=> ∃c:List Value,c.length=R.size/\(∀j,j<R.size->ccs.toList[off+i*R.size+j]? =c[j]?)/\R.rd (hp w) c y/\Data.lim y) (fun i hi=>by
   obtain ⟨c,y,h1,h2,h3⟩:=hone i hi
   refine ⟨y,c,h1,fun j hj=>?_,h3⟩
   have:=h2 j hj
   rw[hadd] at this
   simp only[World.cell?,hh] at this
   simpa using this)
  have hlen:((List.range len).map X).length=len:=by simp
  have hel2: ∀i y,((List.range len).map X)[i]? =some y->i<len/\y=X i:=fun i y hy=>by
   have hi:i<len:=by have:=(List.getElem?_eq_some_iff.1 hy).1;omega
   exact ⟨hi,by simpa [hi] using hy.symm⟩
  refine ⟨(List.range len).map X,⟨some ⟨b,off,none⟩,m,by rw[hlen],by rw[hlen];unfold maxLen at hm;unfold lim;omega,.inr ⟨b,off,ccs,T,fr,rfl,hh,fun i y hy=>?_⟩⟩,by rw[hlen];unfold maxLen at hm;omega,fun y hy=>?_⟩
  ·obtain ⟨hi,rfl⟩:=hel2 i y hy
   obtain ⟨c,e1,e2,e3,-⟩:=hX i hi
   exact ⟨c,e1,e2,e3⟩
  ·obtain ⟨i,hi,he⟩:=List.mem_iff_getElem?.1 hy |>.imp fun i hi=>hel2 i y hi
   obtain ⟨-,-,-,-,e4⟩:=hX i hi
   rw[he];exact e4
structure OpensFs (P:Program) (fs:List Field) (o:Nat) {α:Type} [Data α] (R:Rep α):Prop where
 out: ∀ {H:Type} (enc:TypeId×Value->H) (w:World) (fuel:Nat) (cs:List Value),cs.length=o+R.size->
  (∀f∈fs,∃x,DataW.trod enc P w 0 (fun _=>true) true fuel f.type ((cs.drop f.offset).take (P.cellsOf f.type))=some x)-> ∃a:α,R.rd (hp w) (cs.drop o) a/\Data.lim a
theorem ic {P:Program} {f:Field} {o:Nat} {α:Type} [Data α] {R:Rep α} (ho:f.offset=o) (hc:P.cellsOf f.type=R.size) (h:Opens P f.type R):OpensFs P [f] o R:=by
 constructor
 intro H enc w fuel cs hl hx
 obtain ⟨x,hx⟩:=hx f (by simp)
 rw[ho,hc,List.take_of_length_le (by rw[aS];omega)] at hx
 exact h.out enc w _ _ _ hx
theorem cC {P:Program} {f:Field} {fs:List Field} {o:Nat} {α β:Type} [Data α] [Data β] {R:Rep α} {S:Rep β} (ho:f.offset=o) (hc:P.cellsOf f.type=R.size) (h:Opens P f.type R) (hs:OpensFs P fs (o+R.size) S):OpensFs P (f::fs) o (aJ R S):=by
 constructor
 intro H enc w fuel cs hl hx
 have hl':cs.length=o+(R.size+S.size):=hl
 obtain ⟨b,hb,hlb⟩:=hs.out enc w fuel cs (by omega) (fun g hg=>hx g (by simp[hg]))
 obtain ⟨x,hx⟩:=hx f (by simp)
 rw[ho,hc] at hx
 obtain ⟨a,ha,hla⟩:=h.out enc w _ _ _ hx
 refine ⟨(a,b),⟨(cs.drop o).take R.size,cs.drop (o+R.size),?_,ha,hb⟩,hla,hlb⟩
 rw[<-List.drop_drop,List.take_append_drop]
theorem ep {P:Program} {t:TypeId} {fs:Array Field} {α:Type} [Data α] {R:Rep α} (h:P.underlying t=some (.struct fs)) (hc:P.cellsOf t=R.size) (hf:OpensFs P fs.toList 0 R):Opens P t R:=by
 constructor
 intro H enc w fuel cs x hx
 obtain ⟨xs,n,-,-,hl,hn,hel⟩:=DataW.trod_struct h hx
 have:=hf.out enc w n cs (by omega) (fun f hm=>by
  obtain ⟨i,hi,rfl⟩:=List.getElem_of_mem hm
  have h1:fs[i]? =some fs.toList[i]:=by simp
  exact ⟨_,(hel i _ h1).trans (List.getElem?_eq_getElem (by simp at hi;omega))⟩)
 simpa using this
theorem St.below {w0 w:World} {cs:List Ch} (h:St (hp w0) w0 w cs):Below w0.heap.size w0 w:=by
 obtain ⟨⟨h1,h2,h3,h4⟩,h5,-⟩:=h
 refine ⟨h1,h2,h3,h4,fun b hb=>?_⟩
 have e:w0.heap[b]? =some w0.heap[b]:=Array.getElem?_eq_getElem hb
 rw[e];exact h5 b _ e
end D
namespace D
open Go.RowKit
theorem fy {n:Int} (h1: -9223372036854775808<=n) (h2:n<=9223372036854775807):i64.wrap n=n:=by
 simp only[IntKind.wrap,IntKind.bits,IntKind.signed,Bool.true_and]
 split <;> rename_i h <;> simp at h <;> omega
theorem af {i:Nat} (h:i<9223372036854775807):i64.wrap ((i:Int)+1)=((i+1:Nat):Int):=by
 rw[fy (by omega) (by omega)];rfl
theorem aC {α:Type} {xs:List α} {i:Nat} (h:i<xs.length):aQ xs (i:Int)=some (xs[i]):=by
 unfold aQ
 rw[if_pos (Int.natCast_nonneg _)]
 simp[h]
theorem bI {i n:Nat} (h:i<n):decide ((i:Int)<(n:Int))=true:=by simp[h]
theorem bg {n:Nat} :decide ((n:Int)<(n:Int))=false:=by simp
theorem dH (k:Nat) (h:k<=9223372036854775807):k<aT:=by unfold aT;omega
theorem xy {α:Type} {b n:Nat} {z:α} (h:n*b<=140737488355328):mkI b (n:Int) z=some (List.replicate n z):=by
 unfold mkI
 rw[if_pos ⟨Int.natCast_nonneg _,by simpa using h⟩];simp
theorem Ib {R S:Type} {f:S->Option (Out R S)} (inv:Nat->S) (N:Nat) (h: ∀i,i<N->f (inv i)=some (.nxt (inv (i+1)))): ∀(m i k:Nat),i+m=N->ax f (k+m) (inv i)=ax f k (inv N)
 | 0,i,k,e=>by rw[show i=N by omega];rfl
 | m+1,i,k,e=>by
  rw[<-Nat.add_assoc,ax,h i (by omega)]
  exact Ib inv N h m (i+1) k (by omega)
theorem Ic {R S:Type} {f:S->Option (Out R S)} (inv:Nat->S) (N:Nat) {s:S} (h: ∀i,i<N->f (inv i)=some (.nxt (inv (i+1)))) (he:f (inv N)=some (.brk s)) (hN:N<aT):ax f aT (inv 0)=some (.brk s):=by
 have e:aT=(aT - N - 1)+1+N:=by omega
 rw[e,Ib inv N h N 0 _ (by omega),ax,he]
theorem toL {R α:Type} {f:List α×Int->Option (Out R (List α×Int))} {z:α} (xs:List α) (hN:xs.length<=9223372036854775807)
  (hstep: ∀ys i (h:i<xs.length),ys.length=xs.length->f (ys,(i:Int))=some (.nxt (ys.set i xs[i],((i+1:Nat):Int)))) (hend: ∀ys,ys.length=xs.length->f (ys,(xs.length:Int))=some (.brk (ys,(xs.length:Int)))) :
  ax f aT (List.replicate xs.length z,0)=some (.brk (xs,(xs.length:Int))):=by
 have h0:(List.replicate xs.length z,(0:Int))=(fun i:Nat=>(xs.take i++(List.replicate xs.length z).drop i,(i:Int))) 0:=by simp
 rw[h0]
 refine Ic (fun i:Nat=>(xs.take i++(List.replicate xs.length z).drop i,(i:Int))) xs.length (fun i hi=>?_) ?_ (dH _ hN)
 ·have hl:(xs.take i++(List.replicate xs.length z).drop i).length=xs.length:=by
   rw[aw,aA,aS,List.length_replicate];omega
  rw[hstep _ i hi hl]
  congr 3
  have ht:(xs.take i).length=i:=by rw[aA];omega
  rw[List.set_append_right _ _ (by omega),ht,Nat.sub_self,List.drop_eq_getElem_cons (by rw[List.length_replicate];exact hi),List.set_cons_zero,List.take_succ_eq_append_getElem hi,ai]
  rfl
 ·have:=hend xs rfl
  rw[List.take_of_length_le (aD _),List.drop_of_length_le (by rw[List.length_replicate];exact aD _),List.append_nil]
  exact this
def Iz {α:Type} [Data α] (m:α->Int->Option Int):Prop:= ∀x l,Data.lim x->0<=l->l<=1048576-> ∃r,m x l=some r/\(r<0\/(0<=r/\r<=l/\Data.sm x))
def FG {α:Type} [Data α] (m:α->Option α):Prop:= ∀x,Data.sm x->m x=some x
def FH {α:Type} [Data α] [DecidableEq α] (m:α->α->Option Bool):Prop:= ∀x y,Data.sm x->Data.sm y->m x y=some (decide (x=y))
theorem abC {α:Type} [Data α] {f:Int×Int->Option AC } (xs:List α)
  (hstep: ∀i (h:i<xs.length) l,0<=l->l<=1048576-> ∃r,f (l,(i:Int))=some (if r<0 then .ret (-1) else .nxt (r,((i+1:Nat):Int)))/\(r<0\/(0<=r/\r<=l/\Data.sm xs[i])))
  (hend: ∀l,f (l,(xs.length:Int))=some (.brk (l,(xs.length:Int)))): ∀(m i k:Nat) (l:Int),i+m=xs.length->m<k->0<=l->l<=1048576->
   ax f k (l,(i:Int))=some (.ret (-1))\/ ∃r,ax f k (l,(i:Int))=some (.brk (r,(xs.length:Int)))/\0<=r/\r<=l/\ ∀j (h:j<xs.length),i<=j->Data.sm xs[j]
 | 0,i,k,l,e,hk,h0,h1=>by
  obtain ⟨k,rfl⟩: ∃q,k=q+1:=⟨k - 1,by omega⟩
  obtain rfl:i=xs.length:=by omega
  exact .inr ⟨l,by rw[ax,hend],h0,Int.le_refl _,fun j hj hi=>by omega⟩
 | m+1,i,k,l,e,hk,h0,h1=>by
  obtain ⟨k,rfl⟩: ∃q,k=q+1:=⟨k - 1,by omega⟩
  obtain ⟨r,e1,e2⟩:=hstep i (by omega) l h0 h1
  rw[ax,e1]
  rcases e2 with e2 | ⟨e2,e3,e4⟩
  ·rw[if_pos e2];exact .inl rfl
  ·rw[if_neg (by omega)]
   rcases abC xs hstep hend m (i+1) k r (by omega) (by omega) e2 (by omega) with h | ⟨q,g1,g2,g3,g4⟩
   ·exact .inl h
   ·refine .inr ⟨q,g1,g2,by omega,fun j hj hi=>?_⟩
    by_cases hji:j=i
    ·subst hji;exact e4
    ·exact g4 j hj (by omega)
theorem szL {α:Type} [Data α] {f:Int×Int->Option AC } (xs:List α) {l:Int} (hN:xs.length<=9223372036854775807)
  (hstep: ∀i (h:i<xs.length) l,0<=l->l<=1048576-> ∃r,f (l,(i:Int))=some (if r<0 then .ret (-1) else .nxt (r,((i+1:Nat):Int)))/\(r<0\/(0<=r/\r<=l/\Data.sm xs[i])))
  (hend: ∀l,f (l,(xs.length:Int))=some (.brk (l,(xs.length:Int)))) (h0:0<=l) (h1:l<=1048576) :
  ∃r,(if decide (i64.wrap (l - (xs.length:Int))<0) then (some (-1)) else (aO (ax f aT (i64.wrap (l - (xs.length:Int)),0)) (fun r=>some r) (fun s4=>some s4.1)))=some r/\(r<0\/(0<=r/\r<=l/\Data.sm xs)):=by
 rw[fy (by omega) (by omega)]
 by_cases h:l - (xs.length:Int)<0
 ·exact ⟨-1,by rw[if_pos (decide_eq_true h)],.inl (by decide)⟩
 ·rw[if_neg (by simpa using h)]
  rcases abC xs hstep hend xs.length 0 aT (l - xs.length) (by omega) (dH _ hN) (by omega) (by omega) with e | ⟨r,e,g1,g2,g3⟩
  ·exact ⟨-1,by rw[show ((0:Int))=((0:Nat):Int) from rfl,e];rfl,.inl (by decide)⟩
  ·refine ⟨r,by rw[show ((0:Int))=((0:Nat):Int) from rfl,e];rfl,.inr ⟨g1,by omega,by omega,fun x hx=>?_⟩⟩
   obtain ⟨j,hj,rfl⟩:=List.getElem_of_mem hx
   exact g3 j hj (Nat.zero_le _)
theorem szF {α:Type} [Data α] (xs:List α) {l:Int} (hN:xs.length<=9223372036854775807) (hf: ∀x:α,Data.sm x) (h0:0<=l) (h1:l<=1048576) :
  ∃r,(if decide (i64.wrap (l - (xs.length:Int))<0) then (some (-1)) else (some (i64.wrap (l - (xs.length:Int)))))=some r/\(r<0\/(0<=r/\r<=l/\Data.sm xs)):=by
 rw[fy (by omega) (by omega)]
 by_cases h:l - (xs.length:Int)<0
 ·exact ⟨-1,by rw[if_pos (decide_eq_true h)],.inl (by decide)⟩
 ·exact ⟨_,by rw[if_neg (by simpa using h)],.inr ⟨by omega,by omega,by omega,fun x _=>hf x⟩⟩
theorem aaN {α:Type} [DecidableEq α] {f:Int->Option (Out Bool Int)} (xs ys:List α) (hl:xs.length=ys.length)
  (hstep: ∀i (h:i<xs.length) (h':i<ys.length),f (i:Int)=some (if xs[i] =ys[i] then .nxt ((i+1:Nat):Int) else .ret false)) (hend:f (xs.length:Int)=some (.brk (xs.length:Int))): ∀(m i k:Nat),i+m=xs.length->m<k->
   ax f k (i:Int)=some (if xs.drop i=ys.drop i then .brk (xs.length:Int) else .ret false)
 | 0,i,k,e,hk=>by
  obtain ⟨k,rfl⟩: ∃q,k=q+1:=⟨k - 1,by omega⟩
  obtain rfl:i=xs.length:=by omega
  rw[ax,hend,List.drop_of_length_le (aD _),List.drop_of_length_le (by omega),if_pos rfl]
 | m+1,i,k,e,hk=>by
  obtain ⟨k,rfl⟩: ∃q,k=q+1:=⟨k - 1,by omega⟩
  have hi:i<xs.length:=by omega
  have hi':i<ys.length:=by omega
  have d1:=List.drop_eq_getElem_cons hi
  have d2:=List.drop_eq_getElem_cons hi'
  rw[ax,hstep i hi hi',d1,d2]
  by_cases h:xs[i] =ys[i]
  ·rw[if_pos h]
   simp only
   rw[aaN xs ys hl hstep hend m (i+1) k (by omega) (by omega)]
   simp only[List.cons.injEq,h,true_and]
  ·rw[if_neg h]
   simp only[List.cons.injEq,h,false_and,if_false]
theorem eqL {α:Type} [DecidableEq α] {f:Int->Option (Out Bool Int)} (xs ys:List α) (hN:xs.length<=9223372036854775807)
  (hstep: ∀i (h:i<xs.length) (h':i<ys.length),f (i:Int)=some (if xs[i] =ys[i] then .nxt ((i+1:Nat):Int) else .ret false)) (hend:f (xs.length:Int)=some (.brk (xs.length:Int))) :
  (if (xs.length:Int) !=(ys.length:Int) then (some false) else (aO (ax f aT 0) (fun r=>some r) (fun s4=>some true)))=some (decide (xs=ys)):=by
 by_cases hl:xs.length=ys.length
 ·rw[if_neg (by rw[hl];simp),show ((0:Int))=((0:Nat):Int) from rfl,aaN xs ys hl hstep hend xs.length 0 aT (by omega) (dH _ hN)]
  by_cases h:xs=ys
  ·subst h;simp[aO]
  ·simp[aO,h]
 ·have:xs≠ys:=fun e=>hl (by rw[e])
  rw[if_pos (by simp;omega)];simp[this]
theorem gk {α:Type} {c d:Prop} [Decidable c] [Decidable d] {a b:α} (h:c↔d):(if c then some a else some b)=some (if d then a else b):=by
 by_cases k:c
 ·rw[if_pos k,if_pos (h.1 k)]
 ·rw[if_neg k,if_neg (fun e=>k (h.2 e))]
theorem rD {α:Type} {c d:Prop} [Decidable c] [Decidable d] {a b:α} (h:c↔ ¬d):(if c then some b else some a)=some (if d then a else b):=by
 by_cases k:d
 ·rw[if_neg (fun e=>h.1 e k),if_pos k]
 ·rw[if_pos (h.2 k),if_neg k]
theorem eqB {α:Type} [DecidableEq α] {f:Int->Option (Out Bool Int)} {K:Option Bool} (xs ys:List α) (hN:xs.length<=9223372036854775807) (hl:xs.length=ys.length)
  (hstep: ∀i (h:i<xs.length) (h':i<ys.length),f (i:Int)=some (if xs[i] =ys[i] then .nxt ((i+1:Nat):Int) else .ret false)) (hend:f (xs.length:Int)=some (.brk (xs.length:Int))) :
  aO (ax f aT 0) (fun r=>some r) (fun s4=>K)=(if xs=ys then K else some false):=by
 rw[show ((0:Int))=((0:Nat):Int) from rfl,aaN xs ys hl hstep hend xs.length 0 aT (by omega) (dH _ hN)]
 by_cases h:xs=ys
 ·subst h;simp[aO]
 ·simp[aO,h]
theorem Zb {f:Int->Option (Out Int Int)} (xs ys:List Int)
  (hstep: ∀i (h:i<xs.length) (h':i<ys.length),f (i:Int)=some (if xs[i] < ys[i] then .ret (-1) else if xs[i] > ys[i] then .ret 1 else .nxt ((i+1:Nat):Int))) (hend: ∀i,xs.length<=i\/ys.length<=i->f (i:Int)=some (.brk (i:Int))): ∀(m i k:Nat),i+m=xs.length->m<k->
   (∃r,ax f k (i:Int)=some (.ret r)/\r≠0/\xs≠ys)\/ ∃s,ax f k (i:Int)=some (.brk s)/\(xs.length=ys.length->xs.drop i=ys.drop i)
 | 0,i,k,e,hk=>by
  obtain ⟨k,rfl⟩: ∃q,k=q+1:=⟨k - 1,by omega⟩
  exact .inr ⟨_,by rw[ax,hend i (.inl (by omega))],fun h=>by rw[List.drop_of_length_le (by omega),List.drop_of_length_le (by omega)]⟩
 | m+1,i,k,e,hk=>by
  obtain ⟨k,rfl⟩: ∃q,k=q+1:=⟨k - 1,by omega⟩
  have hi:i<xs.length:=by omega
  by_cases hi':i<ys.length
  ·have hne: ∀h:xs[i] ≠ys[i],xs≠ys:=fun h e=>h (by subst e;rfl)
   rw[ax,hstep i hi hi']
   by_cases h1:xs[i] < ys[i]
   ·rw[if_pos h1];exact .inl ⟨-1,rfl,by decide,hne (by omega)⟩
   ·rw[if_neg h1]
    by_cases h2:xs[i] > ys[i]
    ·rw[if_pos h2];exact .inl ⟨1,rfl,by decide,hne (by omega)⟩
    ·rw[if_neg h2]
     rcases Zb xs ys hstep hend m (i+1) k (by omega) (by omega) with h | ⟨s,g1,g2⟩
     ·exact .inl h
     ·refine .inr ⟨s,g1,fun hl=>?_⟩
      have h3:xs[i] =ys[i]:=by omega
      rw[List.drop_eq_getElem_cons hi,List.drop_eq_getElem_cons hi',g2 hl,h3]
  ·exact .inr ⟨_,by rw[ax,hend i (.inr (by omega))],fun h=>by omega⟩
instance:LawfulBEq ByteArray where
 eq_of_beq {a b} h:=ByteArray.ext (eq_of_beq (show (a.data==b.data)=true from h))
 rfl {a}:=beq_self_eq_true a.data
theorem abD {α β γ δ:Type} {a b:α×β×γ×δ} :(a.1=b.1/\a.2.1=b.2.1/\a.2.2.1=b.2.2.1/\a.2.2.2=b.2.2.2)↔a=b:=by rw[Prod.ext_iff,Prod.ext_iff,Prod.ext_iff]
theorem dM {α β:Type} (p:α×β):(p.1,p.2)=p:=rfl
theorem aH {α:Type} [Data α] {xs:List α} (h:Data.sm xs):xs.length<=1048576/\ ∀x,x∈xs->Data.sm x:=h
theorem fo {α:Type} [Data α] {xs:List α} (h:Data.lim xs):xs.length<=9223372036854775807/\ ∀x,x∈xs->Data.lim x:=h
end D
set_option synthInstance.maxSize 20000
set_option synthInstance.maxHeartbeats 2000000
namespace D
open Go.RowKit
theorem Lx:Iz uq:=fun xs l hl h0 h1=>szF xs (fo hl).1 (fun _=>trivial) h0 h1
theorem P1:Iz vN:=fun xs l hl h0 h1=>szF xs (fo hl).1 (fun _=>⟨trivial,trivial,trivial,trivial⟩) h0 h1
theorem P2:Iz rj:=by
 intro x l hl h0 h1
 unfold rj
 try simp only[dM]
 obtain ⟨r1,e1,k1⟩:=Lx x.1 l hl.1 (by omega) (by omega)
 rw[e1];simp only[aa]
 rcases k1 with k1 | ⟨k1,j1,s1⟩
 ·exact ⟨-1,by rw[if_pos (decide_eq_true k1)],.inl (by decide)⟩
 rw[if_neg (by simpa using k1)]
 obtain ⟨r2,e2,k2⟩:=P1 x.2 r1 hl.2 (by omega) (by omega)
 rw[e2];simp only[aa]
 rcases k2 with k2 | ⟨k2,j2,s2⟩
 ·exact ⟨-1,by rw[if_pos (decide_eq_true k2)],.inl (by decide)⟩
 rw[if_neg (by simpa using k2)]
 exact ⟨_,rfl,.inr ⟨by omega,by omega,⟨s1,s2⟩⟩⟩
theorem M0:Iz sR:=fun xs l hl h0 h1=>szL (f:=ln xs) xs (fo hl).1 (fun i h l k0 k1=>by
 obtain ⟨r,e,hr⟩:=P2 xs[i] l ((fo hl).2 _ (List.getElem_mem h)) k0 k1
 refine ⟨r,?_,hr⟩
 simp only[ln,bI h,if_true,aC h,aa,dM,e,af (show i<9223372036854775807 by have:=(fo hl).1;omega)]
 exact gk (by simp)) (fun l=>by simp only[ln,bg];rfl) h0 h1
theorem JQ:Iz nJ:=by
 intro x l hl h0 h1
 unfold nJ
 try simp only[dM]
 obtain ⟨r1,e1,k1⟩:=M0 x.2 l hl.2 (by omega) (by omega)
 rw[e1];simp only[aa]
 rcases k1 with k1 | ⟨k1,j1,s1⟩
 ·exact ⟨-1,by rw[if_pos (decide_eq_true k1)],.inl (by decide)⟩
 rw[if_neg (by simpa using k1)]
 exact ⟨_,rfl,.inr ⟨by omega,by omega,⟨trivial,s1⟩⟩⟩
theorem P3:Iz vO:=fun xs l hl h0 h1=>szF xs (fo hl).1 (fun _=>trivial) h0 h1
theorem P4:Iz vP:=fun xs l hl h0 h1=>szL (f:=mC xs) xs (fo hl).1 (fun i h l k0 k1=>by
 obtain ⟨r,e,hr⟩:=Lx xs[i] l ((fo hl).2 _ (List.getElem_mem h)) k0 k1
 refine ⟨r,?_,hr⟩
 simp only[mC,bI h,if_true,aC h,aa,dM,e,af (show i<9223372036854775807 by have:=(fo hl).1;omega)]
 exact gk (by simp)) (fun l=>by simp only[mC,bg];rfl) h0 h1
theorem FI:Iz lq:=by
 intro x l hl h0 h1
 unfold lq
 try simp only[dM]
 obtain ⟨r1,e1,k1⟩:=P3 x.2.1 l hl.2.1 (by omega) (by omega)
 rw[e1];simp only[aa]
 rcases k1 with k1 | ⟨k1,j1,s1⟩
 ·exact ⟨-1,by rw[if_pos (decide_eq_true k1)],.inl (by decide)⟩
 rw[if_neg (by simpa using k1)]
 obtain ⟨r2,e2,k2⟩:=P4 x.2.2 r1 hl.2.2 (by omega) (by omega)
 rw[e2];simp only[aa]
 rcases k2 with k2 | ⟨k2,j2,s2⟩
 ·exact ⟨-1,by rw[if_pos (decide_eq_true k2)],.inl (by decide)⟩
 rw[if_neg (by simpa using k2)]
 exact ⟨_,rfl,.inr ⟨by omega,by omega,⟨trivial,s1,s2⟩⟩⟩
theorem Dl:Iz np:=fun xs l hl h0 h1=>szL (f:=gI xs) xs (fo hl).1 (fun i h l k0 k1=>by
 obtain ⟨r,e,hr⟩:=FI xs[i] l ((fo hl).2 _ (List.getElem_mem h)) k0 k1
 refine ⟨r,?_,hr⟩
 simp only[gI,bI h,if_true,aC h,aa,dM,e,af (show i<9223372036854775807 by have:=(fo hl).1;omega)]
 exact gk (by simp)) (fun l=>by simp only[gI,bg];rfl) h0 h1
theorem M2:Iz sS:=fun xs l hl h0 h1=>szF xs (fo hl).1 (fun _=>⟨trivial,trivial,trivial,trivial⟩) h0 h1
theorem Tn:Iz ur:=by
 intro x l hl h0 h1
 unfold ur
 try simp only[dM]
 obtain ⟨r1,e1,k1⟩:=M2 x l hl (by omega) (by omega)
 rw[e1];simp only[aa]
 rcases k1 with k1 | ⟨k1,j1,s1⟩
 ·exact ⟨-1,by rw[if_pos (decide_eq_true k1)],.inl (by decide)⟩
 rw[if_neg (by simpa using k1)]
 exact ⟨_,rfl,.inr ⟨by omega,by omega,s1⟩⟩
theorem Dm:Iz jV:=by
 intro x l hl h0 h1
 unfold jV
 try simp only[dM]
 obtain ⟨r1,e1,k1⟩:=Tn x.2.1 l hl.2.1 (by omega) (by omega)
 rw[e1];simp only[aa]
 rcases k1 with k1 | ⟨k1,j1,s1⟩
 ·exact ⟨-1,by rw[if_pos (decide_eq_true k1)],.inl (by decide)⟩
 rw[if_neg (by simpa using k1)]
 exact ⟨_,rfl,.inr ⟨by omega,by omega,⟨trivial,s1,trivial⟩⟩⟩
theorem Cp:Iz lY:=fun xs l hl h0 h1=>szL (f:=fI xs) xs (fo hl).1 (fun i h l k0 k1=>by
 obtain ⟨r,e,hr⟩:=Dm xs[i] l ((fo hl).2 _ (List.getElem_mem h)) k0 k1
 refine ⟨r,?_,hr⟩
 simp only[fI,bI h,if_true,aC h,aa,dM,e,af (show i<9223372036854775807 by have:=(fo hl).1;omega)]
 exact gk (by simp)) (fun l=>by simp only[fI,bg];rfl) h0 h1
theorem Ie:Iz mD:=by
 intro x l hl h0 h1
 unfold mD
 try simp only[dM]
 obtain ⟨r1,e1,k1⟩:=Dl x.1 l hl.1 (by omega) (by omega)
 rw[e1];simp only[aa]
 rcases k1 with k1 | ⟨k1,j1,s1⟩
 ·exact ⟨-1,by rw[if_pos (decide_eq_true k1)],.inl (by decide)⟩
 rw[if_neg (by simpa using k1)]
 obtain ⟨r2,e2,k2⟩:=Cp x.2 r1 hl.2 (by omega) (by omega)
 rw[e2];simp only[aa]
 rcases k2 with k2 | ⟨k2,j2,s2⟩
 ·exact ⟨-1,by rw[if_pos (decide_eq_true k2)],.inl (by decide)⟩
 rw[if_neg (by simpa using k2)]
 exact ⟨_,rfl,.inr ⟨by omega,by omega,⟨s1,s2⟩⟩⟩
theorem Cq:Iz lZ:=fun xs l hl h0 h1=>szF xs (fo hl).1 (fun _=>⟨trivial,trivial,trivial⟩) h0 h1
theorem M3:Iz pE:=by
 intro x l hl h0 h1
 unfold pE
 try simp only[dM]
 obtain ⟨r1,e1,k1⟩:=JQ x.1 l hl.1 (by omega) (by omega)
 rw[e1];simp only[aa]
 rcases k1 with k1 | ⟨k1,j1,s1⟩
 ·exact ⟨-1,by rw[if_pos (decide_eq_true k1)],.inl (by decide)⟩
 rw[if_neg (by simpa using k1)]
 obtain ⟨r2,e2,k2⟩:=Ie x.2.1 r1 hl.2.1 (by omega) (by omega)
 rw[e2];simp only[aa]
 rcases k2 with k2 | ⟨k2,j2,s2⟩
 ·exact ⟨-1,by rw[if_pos (decide_eq_true k2)],.inl (by decide)⟩
 rw[if_neg (by simpa using k2)]
 obtain ⟨r3,e3,k3⟩:=Cq x.2.2.1 r2 hl.2.2.1 (by omega) (by omega)
 rw[e3];simp only[aa]
 rcases k3 with k3 | ⟨k3,j3,s3⟩
 ·exact ⟨-1,by rw[if_pos (decide_eq_true k3)],.inl (by decide)⟩
 rw[if_neg (by simpa using k3)]
 rw[fy (by have:x.2.2.2.size<=9223372036854775807:=hl.2.2.2;omega) (by omega)]
 by_cases k4:r3 - (x.2.2.2.size:Int)<0
 ·exact ⟨-1,by rw[if_pos (decide_eq_true k4)],.inl (by decide)⟩
 rw[if_neg (by simpa using k4)]
 have s4:x.2.2.2.size<=1048576:=by omega
 exact ⟨_,rfl,.inr ⟨by omega,by omega,⟨s1,s2,s3,s4⟩⟩⟩
theorem Ly:FG qo:=by
 intro xs hx
 have hn:=(aH hx).1
 unfold qo
 rw[xy (by omega)];simp only[aa]
 rw[toL (f:=nK xs) xs (by omega) (fun ys i h hy=>by simp only[nK,bI h,if_true,aC h,aC (show i<ys.length by omega),aa,dM,af (show i<9223372036854775807 by omega),Int.toNat_natCast]) (fun ys hy=>by simp only[nK,bg];rfl)]
 rfl
theorem To:FG uu:=by
 intro x hx
 unfold uu
 simp only[dM,aa]
theorem P5:FG rk:=by
 intro xs hx
 have hn:=(aH hx).1
 unfold rk
 rw[xy (by omega)];simp only[aa]
 rw[toL (f:=mE xs) xs (by omega) (fun ys i h hy=>by simp only[mE,bI h,if_true,aC h,aC (show i<ys.length by omega),aa,dM,To xs[i] ((aH hx).2 _ (List.getElem_mem h)),af (show i<9223372036854775807 by omega),Int.toNat_natCast]) (fun ys hy=>by simp only[mE,bg];rfl)]
 rfl
theorem P6:FG rl:=by
 intro x hx
 unfold rl
 simp only[dM,aa,Ly x.1 hx.1,P5 x.2 hx.2]
theorem M4:FG pF:=by
 intro xs hx
 have hn:=(aH hx).1
 unfold pF
 rw[xy (by omega)];simp only[aa]
 rw[toL (f:=lr xs) xs (by omega) (fun ys i h hy=>by simp only[lr,bI h,if_true,aC h,aC (show i<ys.length by omega),aa,dM,P6 xs[i] ((aH hx).2 _ (List.getElem_mem h)),af (show i<9223372036854775807 by omega),Int.toNat_natCast]) (fun ys hy=>by simp only[lr,bg];rfl)]
 rfl
theorem JR:FG nL:=by
 intro x hx
 unfold nL
 simp only[dM,aa,M4 x.2 hx.2]
theorem P7:FG rm:=by
 intro xs hx
 have hn:=(aH hx).1
 unfold rm
 rw[xy (by omega)];simp only[aa]
 rw[toL (f:=mF xs) xs (by omega) (fun ys i h hy=>by simp only[mF,bI h,if_true,aC h,aC (show i<ys.length by omega),aa,dM,af (show i<9223372036854775807 by omega),Int.toNat_natCast]) (fun ys hy=>by simp only[mF,bg];rfl)]
 rfl
theorem P8:FG rp:=by
 intro xs hx
 have hn:=(aH hx).1
 unfold rp
 rw[xy (by omega)];simp only[aa]
 rw[toL (f:=mG xs) xs (by omega) (fun ys i h hy=>by simp only[mG,bI h,if_true,aC h,aC (show i<ys.length by omega),aa,dM,Ly xs[i] ((aH hx).2 _ (List.getElem_mem h)),af (show i<9223372036854775807 by omega),Int.toNat_natCast]) (fun ys hy=>by simp only[mG,bg];rfl)]
 rfl
theorem FJ:FG lu:=by
 intro x hx
 unfold lu
 simp only[dM,aa,P7 x.2.1 hx.2.1,P8 x.2.2 hx.2.2]
theorem Dn:FG jW:=by
 intro xs hx
 have hn:=(aH hx).1
 unfold jW
 rw[xy (by omega)];simp only[aa]
 rw[toL (f:=gJ xs) xs (by omega) (fun ys i h hy=>by simp only[gJ,bI h,if_true,aC h,aC (show i<ys.length by omega),aa,dM,FJ xs[i] ((aH hx).2 _ (List.getElem_mem h)),af (show i<9223372036854775807 by omega),Int.toNat_natCast]) (fun ys hy=>by simp only[gJ,bg];rfl)]
 rfl
theorem P9:FG rq:=by
 intro x hx
 unfold rq
 simp only[dM,aa]
theorem M5:FG pG:=by
 intro xs hx
 have hn:=(aH hx).1
 unfold pG
 rw[xy (by omega)];simp only[aa]
 rw[toL (f:=lx xs) xs (by omega) (fun ys i h hy=>by simp only[lx,bI h,if_true,aC h,aC (show i<ys.length by omega),aa,dM,P9 xs[i] ((aH hx).2 _ (List.getElem_mem h)),af (show i<9223372036854775807 by omega),Int.toNat_natCast]) (fun ys hy=>by simp only[lx,bg];rfl)]
 rfl
theorem Tp:FG uv:=by
 intro x hx
 unfold uv
 simp only[dM,aa,M5 x hx]
theorem Do:FG jX:=by
 intro x hx
 unfold jX
 simp only[dM,aa,Tp x.2.1 hx.2.1]
theorem Cr:FG jl:=by
 intro xs hx
 have hn:=(aH hx).1
 unfold jl
 rw[xy (by omega)];simp only[aa]
 rw[toL (f:=fJ xs) xs (by omega) (fun ys i h hy=>by simp only[fJ,bI h,if_true,aC h,aC (show i<ys.length by omega),aa,dM,Do xs[i] ((aH hx).2 _ (List.getElem_mem h)),af (show i<9223372036854775807 by omega),Int.toNat_natCast]) (fun ys hy=>by simp only[fJ,bg];rfl)]
 rfl
theorem If:FG mH:=by
 intro x hx
 unfold mH
 simp only[dM,aa,Dn x.1 hx.1,Cr x.2 hx.2]
theorem Dq:FG jY:=by
 intro x hx
 unfold jY
 simp only[dM,aa]
theorem Cs:FG jm:=by
 intro xs hx
 have hn:=(aH hx).1
 unfold jm
 rw[xy (by omega)];simp only[aa]
 rw[toL (f:=fK xs) xs (by omega) (fun ys i h hy=>by simp only[fK,bI h,if_true,aC h,aC (show i<ys.length by omega),aa,dM,Dq xs[i] ((aH hx).2 _ (List.getElem_mem h)),af (show i<9223372036854775807 by omega),Int.toNat_natCast]) (fun ys hy=>by simp only[fK,bg];rfl)]
 rfl
theorem M6:FG iW:=by
 intro x hx
 unfold iW
 simp only[dM,aa,JR x.1 hx.1,If x.2.1 hx.2.1,Cs x.2.2.1 hx.2.2.1]
theorem Lz:FH uw:=fun xs ys hx hy=>eqL (f:=nM xs ys) xs ys (by have:=(aH hx).1;omega) (fun i h h'=>by
 simp only[nM,bI h,if_true,aC h,aC h',aa,dM,af (show i<9223372036854775807 by have:=(aH hx).1;omega)]
 first | exact gk (by simp) | exact rD (by simp) | exact gk (by simp[Prod.ext_iff])) (by simp only[nM,bg];rfl)
theorem Tq:FH uy:=by
 intro x y hx hy
 unfold uy
 try simp only[dM,aa]
 repeat' split
 all_goals simp_all[Prod.ext_iff]
theorem Qa:FH vQ:=fun xs ys hx hy=>eqL (f:=mI xs ys) xs ys (by have:=(aH hx).1;omega) (fun i h h'=>by
 simp only[mI,bI h,if_true,aC h,aC h',aa,dM,Tq xs[i] ys[i] ((aH hx).2 _ (List.getElem_mem h)) ((aH hy).2 _ (List.getElem_mem h')),af (show i<9223372036854775807 by have:=(aH hx).1;omega)]
 first | exact gk (by simp) | exact rD (by simp) | exact gk (by simp[Prod.ext_iff])) (by simp only[mI,bg];rfl)
theorem Qb:FH rr:=by
 intro x y hx hy
 unfold rr
 try simp only[dM,aa,Lz x.1 y.1 hx.1 hy.1,Qa x.2 y.2 hx.2 hy.2]
 repeat' split
 all_goals simp_all[Prod.ext_iff]
theorem M7:FH sU:=fun xs ys hx hy=>eqL (f:=lz xs ys) xs ys (by have:=(aH hx).1;omega) (fun i h h'=>by
 simp only[lz,bI h,if_true,aC h,aC h',aa,dM,Qb xs[i] ys[i] ((aH hx).2 _ (List.getElem_mem h)) ((aH hy).2 _ (List.getElem_mem h')),af (show i<9223372036854775807 by have:=(aH hx).1;omega)]
 first | exact gk (by simp) | exact rD (by simp) | exact gk (by simp[Prod.ext_iff])) (by simp only[lz,bg];rfl)
theorem JS:FH nN:=by
 intro x y hx hy
 unfold nN
 try simp only[dM,aa,M7 x.2 y.2 hx.2 hy.2]
 repeat' split
 all_goals simp_all[Prod.ext_iff]
theorem Qc:FH vR:=fun xs ys hx hy=>eqL (f:=mJ xs ys) xs ys (by have:=(aH hx).1;omega) (fun i h h'=>by
 simp only[mJ,bI h,if_true,aC h,aC h',aa,dM,af (show i<9223372036854775807 by have:=(aH hx).1;omega)]
 first | exact gk (by simp) | exact rD (by simp) | exact gk (by simp[Prod.ext_iff])) (by simp only[mJ,bg];rfl)
theorem Qd:FH vS:=fun xs ys hx hy=>eqL (f:=mK xs ys) xs ys (by have:=(aH hx).1;omega) (fun i h h'=>by
 simp only[mK,bI h,if_true,aC h,aC h',aa,dM,Lz xs[i] ys[i] ((aH hx).2 _ (List.getElem_mem h)) ((aH hy).2 _ (List.getElem_mem h')),af (show i<9223372036854775807 by have:=(aH hx).1;omega)]
 first | exact gk (by simp) | exact rD (by simp) | exact gk (by simp[Prod.ext_iff])) (by simp only[mK,bg];rfl)
theorem FK:FH lA:=by
 intro x y hx hy
 unfold lA
 try simp only[dM,aa,Qc x.2.1 y.2.1 hx.2.1 hy.2.1,Qd x.2.2 y.2.2 hx.2.2 hy.2.2]
 repeat' split
 all_goals simp_all[Prod.ext_iff]
theorem Dr:FH nr:=fun xs ys hx hy=>eqL (f:=gK xs ys) xs ys (by have:=(aH hx).1;omega) (fun i h h'=>by
 simp only[gK,bI h,if_true,aC h,aC h',aa,dM,FK xs[i] ys[i] ((aH hx).2 _ (List.getElem_mem h)) ((aH hy).2 _ (List.getElem_mem h')),af (show i<9223372036854775807 by have:=(aH hx).1;omega)]
 first | exact gk (by simp) | exact rD (by simp) | exact gk (by simp[Prod.ext_iff])) (by simp only[gK,bg];rfl)
theorem Qe:FH ru:=by
 intro x y hx hy
 unfold ru
 try simp only[dM,aa]
 repeat' split
 all_goals simp_all[Prod.ext_iff]
theorem M8:FH sV:=fun xs ys hx hy=>eqL (f:=lB xs ys) xs ys (by have:=(aH hx).1;omega) (fun i h h'=>by
 simp only[lB,bI h,if_true,aC h,aC h',aa,dM,Qe xs[i] ys[i] ((aH hx).2 _ (List.getElem_mem h)) ((aH hy).2 _ (List.getElem_mem h')),af (show i<9223372036854775807 by have:=(aH hx).1;omega)]
 first | exact gk (by simp) | exact rD (by simp) | exact gk (by simp[Prod.ext_iff])) (by simp only[lB,bg];rfl)
theorem Ts:FH uz:=by
 intro x y hx hy
 unfold uz
 try simp only[dM,aa,M8 x y hx hy]
 repeat' split
 all_goals simp_all[Prod.ext_iff]
theorem Ds:FH jZ:=by
 intro x y hx hy
 unfold jZ
 try simp only[dM,aa,Ts x.2.1 y.2.1 hx.2.1 hy.2.1]
 repeat' split
 all_goals simp_all[Prod.ext_iff]
theorem Ct:FH l5:=fun xs ys hx hy=>eqL (f:=fL xs ys) xs ys (by have:=(aH hx).1;omega) (fun i h h'=>by
 simp only[fL,bI h,if_true,aC h,aC h',aa,dM,Ds xs[i] ys[i] ((aH hx).2 _ (List.getElem_mem h)) ((aH hy).2 _ (List.getElem_mem h')),af (show i<9223372036854775807 by have:=(aH hx).1;omega)]
 first | exact gk (by simp) | exact rD (by simp) | exact gk (by simp[Prod.ext_iff])) (by simp only[fL,bg];rfl)
theorem Ig:FH mL:=by
 intro x y hx hy
 unfold mL
 try simp only[dM,aa,Dr x.1 y.1 hx.1 hy.1,Ct x.2 y.2 hx.2 hy.2]
 repeat' split
 all_goals simp_all[Prod.ext_iff]
theorem Dt:FH j4:=by
 intro x y hx hy
 unfold j4
 try simp only[dM,aa]
 repeat' split
 all_goals simp_all[Prod.ext_iff]
theorem Cu:FH l6:=fun xs ys hx hy=>eqL (f:=fM xs ys) xs ys (by have:=(aH hx).1;omega) (fun i h h'=>by
 simp only[fM,bI h,if_true,aC h,aC h',aa,dM,Dt xs[i] ys[i] ((aH hx).2 _ (List.getElem_mem h)) ((aH hy).2 _ (List.getElem_mem h')),af (show i<9223372036854775807 by have:=(aH hx).1;omega)]
 first | exact gk (by simp) | exact rD (by simp) | exact gk (by simp[Prod.ext_iff])) (by simp only[fM,bg];rfl)
theorem Ek:FH iX:=by
 intro x y hx hy
 unfold iX
 try simp only[dM,aa,JS x.1 y.1 hx.1 hy.1,Ig x.2.1 y.2.1 hx.2.1 hy.2.1,Cu x.2.2.1 y.2.2.1 hx.2.2.1 hy.2.2.1]
 repeat' split
 all_goals simp_all[Prod.ext_iff]
end D
namespace D
open Go.RowKit
theorem cR {R S:Type} {f:S->Option (Out R S)} (Inv:Nat->S->Prop) (Q:Out R S->Prop) (N:Nat)
  (h: ∀i s,i<=N->Inv i s->(i<N/\ ∃s',f s=some (.nxt s')/\Inv (i+1) s')\/ ∃o,f s=some o/\(∀s',o≠ .nxt s')/\Q o) {s:S} (h0:Inv 0 s) (hN:N<aT): ∃o,ax f aT s=some o/\Q o:=by
 have key: ∀(k i:Nat) (s:S),i<=N->N<i+k->Inv i s-> ∃o,ax f k s=some o/\Q o:=by
  intro k
  induction k with
  | zero=>intro i s h1 h2;omega
  | succ k ih =>
   intro i s h1 h2 hI
   rcases h i s h1 hI with ⟨hi,s',e,hI'⟩ | ⟨o,e,hn,hq⟩
   ·obtain ⟨o,e',hq⟩:=ih (i+1) s' (by omega) (by omega) hI'
    exact ⟨o,by rw[ax,e];exact e',hq⟩
   ·refine ⟨o,?_,hq⟩
    rw[ax,e]
    cases o with
    | nxt s'=>exact absurd rfl (hn s')
    | brk s'=>rfl
    | ret r=>rfl
 exact key aT 0 s (by omega) (by omega) h0
theorem pa {R S:Type} {f:S->Option (Out R S)} (Inv:Nat->S->Prop) (N:Nat) (h: ∀i s,i<N->Inv i s-> ∃s',f s=some (.nxt s')/\Inv (i+1) s') (he: ∀s,Inv N s->f s=some (.brk s)) {s:S} (h0:Inv 0 s) (hN:N<aT): ∃s',ax f aT s=some (.brk s')/\Inv N s':=by
 obtain ⟨o,e,s',rfl,h⟩:=cR (f:=f) Inv (fun o=> ∃s',o= .brk s'/\Inv N s') N (fun i s hi hI=>by
  by_cases h1:i<N
  ·exact .inl ⟨h1,h i s h1 hI⟩
  ·obtain rfl:i=N:=by omega
   exact .inr ⟨_,he s hI,(fun s' e=>by cases e),s,rfl,hI⟩) h0 hN
 exact ⟨s',e,h⟩
theorem bp {R S:Type} {f:S->Option (Out R S)} (st:Nat->S) (N:Nat) (h: ∀i,i<N->f (st i)=some (.nxt (st (i+1)))) (he:f (st N)=some (.brk (st N))) (hN:N<aT):ax f aT (st 0)=some (.brk (st N)):=Ic st N h he hN
theorem vx {k:Nat} (h:k<=9223372036854775807):k<aT:=dH k h
theorem pb {i:Nat} (h:i<=9223372036854775807):i64.wrap ((i:Int) - 1)=(i:Int) - 1:=fy (by omega) (by omega)
theorem aK {α:Type} {b:Nat} {xs ys:List α} (h:(xs.length+ys.length)*b<=140737488355328):cn b xs ys=some (xs++ys):=by unfold cn;rw[if_pos h]
theorem cr {R S T:Type} {x:Option (Out R S)} {r:R} {kr:R->Option T} {k:S->Option T} (h:x=some (.ret r)):aO x kr k=kr r:=by rw[h];rfl
theorem ay {R S T:Type} {x:Option (Out R S)} {s:S} {kr:R->Option T} {k:S->Option T} (h:x=some (.brk s)):aO x kr k=k s:=by rw[h];rfl
def nth {α:Type} [Inhabited α] (xs:List α) (i:Int):α:=xs.getD i.toNat default
section
variable {α:Type} [Inhabited α] {xs ys:List α}
theorem aI {i:Int} (h0:0<=i) (h1:i<xs.length):aQ xs i=some (nth xs i):=by
 unfold aQ nth
 rw[if_pos h0]
 have:i.toNat<xs.length:=by omega
 simp[List.getD_eq_getElem?_getD,this]
theorem bJ {i:Nat} (h:i<xs.length):nth xs (i:Int)=xs[i]:=by simp[nth,List.getD_eq_getElem?_getD,h]
theorem b9 {i:Int} (h0:0<=i) (h1:i<xs.length):nth xs i∈xs:=by
 have:i.toNat<xs.length:=by omega
 have e:nth xs i=xs[i.toNat]:=by simp[nth,List.getD_eq_getElem?_getD,this]
 rw[e];exact List.getElem_mem this
theorem iZ {i:Int} (h0:0<=i) (h1:i<xs.length):nth (xs++ys) i=nth xs i:=by
 have:i.toNat<xs.length:=by omega
 simp[nth,List.getD_eq_getElem?_getD,List.getElem?_append_left this]
theorem FL {x:α} (h:x∈xs): ∃i:Nat,i<xs.length/\nth xs (i:Int)=x:=by
 obtain ⟨i,hi,rfl⟩:=List.getElem_of_mem h
 exact ⟨i,hi,bJ hi⟩
theorem Ih {i:Int} {x:α} (h0:0<=i) (h1:i<xs.length):nth (xs.set i.toNat x) i=x:=by
 have:i.toNat<xs.length:=by omega
 simp[nth,List.getD_eq_getElem?_getD,this]
theorem Xw (h:xs.length=ys.length) (k: ∀i:Nat,i<xs.length->nth xs (i:Int)=nth ys (i:Int)):xs=ys:=by
 refine List.ext_getElem h fun i h1 h2=>?_
 have:=k i h1
 rwa [bJ h1,bJ h2] at this
end
section
variable {κ:Type} [DecidableEq κ]
def nbL (l:List κ):Option κ->List κ
 | none=>l
 | some x=>if x∈l then l else l++ [x]
def nbI (l:List κ):Option κ->Int
 | none=> -1
 | some x=>(l.idxOf x:Int)
def nbS (l:List κ) (os:List (Option κ)):List κ:=os.foldl nbL l
def nbR (l:List κ):List (Option κ)->List Int
 | [] =>[]
 | o::os=>nbI l o::nbR (nbL l o) os
theorem xz (l:List κ) (os:List (Option κ)) (o:Option κ):nbS l (os++ [o])=nbL (nbS l os) o:=by simp[nbS]
theorem uD: ∀(l:List κ) (os:List (Option κ)) (o:Option κ),nbR l (os++ [o])=nbR l os++ [nbI (nbS l os) o]
 | l,[],o=>rfl
 | l,p::os,o=>by
  show nbI l p::nbR (nbL l p) (os++ [o])=nbI l p::nbR (nbL l p) os++ [nbI (nbS (nbL l p) os) o]
  rw[uD (nbL l p) os o];rfl
theorem e7: ∀(l:List κ) (os:List (Option κ)),(nbR l os).length=os.length
 | l,[] =>rfl
 | l,o::os=>by show (nbR (nbL l o) os).length+1=_;rw[e7];rfl
theorem M9 (l : List κ) (o : Option κ) : l <+: nbL l o := by
  cases o with
  | none => exact List.prefix_refl l
  | some x => unfold nbL; simp only; split
              · exact List.prefix_refl l
              · exact List.prefix_append l [x]
theorem me: ∀(l:List κ) (os:List (Option κ)),l <+:nbS l os
 | l,[] =>List.prefix_refl l
 | l,o::os=>(M9 l o).trans (me (nbL l o) os)
theorem Qf {l : List κ} {o : Option κ} (h : l.Nodup) : (nbL l o).Nodup := by
  cases o with
  | none => exact h
  | some x => unfold nbL; simp only; split
              · exact h
              · rename_i hx; exact List.nodup_append.2 ⟨h, by simp, by rintro a ha b hb rfl; simp at hb; exact hx (hb ▸ ha)⟩
theorem tT: ∀ {l:List κ} {os:List (Option κ)},l.Nodup->(nbS l os).Nodup
 | l,[],h=>h
 | l,o::os,h=>tT (l:=nbL l o) (os:=os) (Qf h)
theorem Qg {l : List κ} {o : Option κ} {x : κ} : x ∈ nbL l o ↔ x ∈ l \/ o = some x := by
  cases o with
  | none => simp [nbL]
  | some y => unfold nbL; simp only; split
              · rename_i h; constructor
                · exact .inl
                · rintro (h' | h')
                  · exact h'
                  · simp at h'; exact h' ▸ h
              · simp; exact or_congr Iff.rfl eq_comm
theorem yK: ∀ {l:List κ} {os:List (Option κ)} {x:κ},x∈nbS l os↔x∈l\/some x∈os
 | l,[],x=>by simp[nbS]
 | l,o::os,x=>by
  show x∈nbS (nbL l o) os↔_
  rw[yK,Qg,List.mem_cons,or_assoc]
  exact or_congr Iff.rfl (or_congr eq_comm Iff.rfl)
theorem nD {l:List κ} {x:κ} (h:x∈l):nbL l (some x)=l:=by simp[nbL,h]
theorem mf {l:List κ} {x:κ} (h:x∉l):nbL l (some x)=l++ [x]:=by simp[nbL,h]
theorem qQ {l:List κ} {x:κ} (h:x∉l):l.idxOf x=l.length:=List.idxOf_eq_length h
def bfS (nx:κ->List (Option κ)) (first:κ):Nat->List κ
 | 0=>[first]
 | i+1=>match (bfS nx first i)[i]? with
  | some x=>nbS (bfS nx first i) (nx x)
  | none=>bfS nx first i
def bfR (nx:κ->List (Option κ)) (first:κ):Nat->List (List Int)
 | 0=>[]
 | i+1=>bfR nx first i++(match (bfS nx first i)[i]? with
  | some x=>[nbR (bfS nx first i) (nx x)]
  | none=>[])
variable {nx:κ->List (Option κ)} {first:κ}
theorem FM {i:Nat} (h:i<(bfS nx first i).length):bfS nx first (i+1)=nbS (bfS nx first i) (nx ((bfS nx first i)[i])):=by
 rw[bfS,List.getElem?_eq_getElem h]
theorem xA {i:Nat} (h:i<(bfS nx first i).length):bfR nx first (i+1)=bfR nx first i++ [nbR (bfS nx first i) (nx ((bfS nx first i)[i]))]:=by
 rw[bfR,List.getElem?_eq_getElem h]
theorem bU (i:Nat):bfS nx first i <+:bfS nx first (i+1):=by
 rw[bfS]
 split
 ·exact me _ _
 ·exact List.prefix_refl _
theorem yL {i j:Nat} (h:i<=j):bfS nx first i <+:bfS nx first j:=by
 induction h with
 | refl=>exact List.prefix_refl _
 | step _ ih=>exact ih.trans (bU _)
theorem pc: ∀i,(bfS nx first i).Nodup
 | 0=>by simp[bfS]
 | i+1=>by
  rw[bfS]
  split
  ·exact tT (pc i)
  ·exact pc i
theorem lK {G:κ->Prop} (h0:G first) (h: ∀x,G x-> ∀y,some y∈nx x->G y): ∀i,∀x∈bfS nx first i,G x
 | 0=>by simp[bfS];exact h0
 | i+1=>by
  rw[bfS]
  split
  ·rename_i y hy
   intro x hx
   rcases yK.1 hx with hx | hx
   ·exact lK h0 h i x hx
   ·exact h y (lK h0 h i y (List.mem_of_getElem? hy)) x hx
  ·exact lK h0 h i
theorem Ii (i:Nat):(bfS nx first i)[0]? =some first:=by
 obtain ⟨t,ht⟩:=yL (nx:=nx) (first:=first) (Nat.zero_le i)
 rw[<-ht];rfl
theorem kI: ∀ {i:Nat},(∀j,j<i->j<(bfS nx first j).length)->(bfR nx first i).length=i
 | 0,_=>rfl
 | i+1,h=>by rw[xA (h i (by omega)),aw,kI fun j hj=>h j (by omega)];rfl
def bfE (nx:κ->List (Option κ)) (first:κ) (N:Nat):Prop:=N=(bfS nx first N).length/\ ∀i,i<N->i<(bfS nx first i).length
theorem U6 {B:Nat} (hB: ∀i,(bfS nx first i).length<=B): ∃N,N<=B/\bfE nx first N:=by
 have key: ∀m i,i+m=B->(∀j,j<i->j<(bfS nx first j).length)-> ∃N,N<=B/\bfE nx first N:=by
  intro m
  induction m with
  | zero =>
   intro i hi hj
   have h1:=hB i
   have h2:i<=(bfS nx first i).length:=by
    cases i with
    | zero=>omega
    | succ i =>
     have:=hj i (by omega)
     have hp:=(bU (nx:=nx) (first:=first) i).length_le
     omega
   exact ⟨i,by omega,by omega,hj⟩
  | succ m ih =>
   intro i hi hj
   by_cases h:i<(bfS nx first i).length
   ·exact ih (i+1) (by omega) fun j hj'=>by
     by_cases e:j=i
     ·subst e;exact h
     ·exact hj j (by omega)
   ·have h2:i<=(bfS nx first i).length:=by
     cases i with
     | zero=>omega
     | succ i =>
      have:=hj i (by omega)
      have hp:=(bU (nx:=nx) (first:=first) i).length_le
      omega
    exact ⟨i,by omega,by omega,hj⟩
 exact key B 0 (by omega) (by omega)
theorem Tt {N M:Nat} (h:bfE nx first N) (k:bfE nx first M):N=M:=by
 rcases Nat.lt_trichotomy N M with e | e | e
 ·have:=k.2 N e;have:=h.1;omega
 ·exact e
 ·have:=h.2 M e;have:=k.1;omega
end
end D
namespace D
open Go.RowKit
section
variable {α:Type} [Inhabited α]
def smk (mk:α->Nat):List α->Nat
 | [] =>0
 | x::xs=>mk x+smk mk xs
def mkd (mk:α->Nat) (m:α->Nat->α):List α->Nat->List α
 | [],_=>[]
 | x::xs,k=>m x k::mkd mk m xs (k+mk x)
theorem FN (mk:α->Nat): ∀(xs:List α) (x:α),smk mk (xs++ [x])=smk mk xs+mk x
 | [],x=>by simp[smk]
 | y::xs,x=>by simp[smk,FN mk xs x,Nat.add_assoc]
theorem FO (mk:α->Nat) (m:α->Nat->α): ∀(xs:List α) (x:α) (k:Nat),mkd mk m (xs++ [x]) k=mkd mk m xs k++ [m x (k+smk mk xs)]
 | [],x,k=>by simp[mkd,smk]
 | y::xs,x,k=>by simp[mkd,smk,FO mk m xs x,Nat.add_assoc]
theorem bh (mk:α->Nat) (m:α->Nat->α): ∀(xs:List α) (k:Nat),(mkd mk m xs k).length=xs.length
 | [],_=>rfl
 | x::xs,k=>by simp[mkd,bh mk m xs]
theorem FP (mk:α->Nat) (m:α->Nat->α): ∀(xs:List α) (k i:Nat),(mkd mk m xs k).take i=mkd mk m (xs.take i) k
 | [],_,_=>by simp[mkd]
 | x::xs,k,0=>by simp[mkd]
 | x::xs,k,i+1=>by simp[mkd,FP mk m xs]
theorem Tu {xs:List α} {k:Nat} (h:k<xs.length):xs.take (k+1)=xs.take k++ [nth xs (k:Int)]:=by
 rw[List.take_succ_eq_append_getElem h,bJ h]
theorem Zc (mk:α->Nat) (m:α->Nat->α) (xs:List α) (k:Nat) {i:Nat} (h:i<xs.length):nth (mkd mk m xs k) (i:Int)=m (nth xs (i:Int)) (k+smk mk (xs.take i)):=by
 have h':i<(mkd mk m xs k).length:=by rw[bh];exact h
 have e:=Tu h'
 rw[FP,FP,Tu h,FO] at e
 have:=List.append_cancel_left e
 simpa using this.symm
theorem FQ (mk:α->Nat) {xs:List α} {i:Nat} (h:i<xs.length):smk mk (xs.take (i+1))=smk mk (xs.take i)+mk (nth xs (i:Int)):=by rw[Tu h,FN]
theorem Qh (mk:α->Nat): ∀(xs:List α) (i:Nat),smk mk (xs.take i)<=smk mk xs
 | [],_=>by simp
 | x::xs,0=>by simp[smk]
 | x::xs,i+1=>by simp[smk];exact Qh mk xs i
theorem jP (mk:α->Nat) {B:Nat} : ∀(xs:List α),(∀x∈xs,mk x<=B)->smk mk xs<=xs.length*B
 | [],_=>by simp[smk]
 | x::xs,h=>by
  have h1:=jP mk xs fun y hy=>h y (by simp[hy])
  have h2:=h x (by simp)
  simp only[smk,al,Nat.add_mul,Nat.one_mul];omega
theorem Xx {xs ys:List α} {i:Nat} (hi:i<xs.length) (hl:ys.length=i) (x:α):(ys++xs.drop i).set i x=ys++ [x] ++xs.drop (i+1):=by
 rw[List.set_append_right _ _ (by omega),hl,Nat.sub_self,List.drop_eq_getElem_cons hi,List.set_cons_zero,ai];rfl
theorem FR {R:Type} {f:List α×Int×Int->Option (Out R (List α×Int×Int))} (xs:List α) (mk:α->Nat) (m:α->Nat->α) (hN:xs.length<=9223372036854775807) {k:Nat} (hk:k+smk mk xs<=4611686018427387904)
  (hstep: ∀ys (i k:Nat),i<xs.length->ys.length=xs.length->nth ys (i:Int)=nth xs (i:Int)->k+mk (nth xs (i:Int))<=4611686018427387904->f (ys,(k:Int),(i:Int))=some (.nxt (ys.set i (m (nth xs (i:Int)) k),((k+mk (nth xs (i:Int)):Nat):Int),((i+1:Nat):Int))))
  (hend: ∀ys (k:Nat),ys.length=xs.length->f (ys,(k:Int),(xs.length:Int))=some (.brk (ys,(k:Int),(xs.length:Int)))) :
  ax f aT (xs,(k:Int),0)=some (.brk (mkd mk m xs k,((k+smk mk xs:Nat):Int),(xs.length:Int))):=by
 have hlen: ∀i,i<=xs.length->(mkd mk m (xs.take i) k++xs.drop i).length=xs.length:=fun i hi=>by
  rw[aw,bh,aA,aS];omega
 have:=bp (f:=f) (fun i=>(mkd mk m (xs.take i) k++xs.drop i,((k+smk mk (xs.take i):Nat):Int),(i:Int))) xs.length (fun i hi=>by
  have hl:(mkd mk m (xs.take i) k).length=i:=by rw[bh,aA];omega
  have hle:=Qh mk xs (i+1)
  rw[FQ mk hi] at hle
  rw[hstep _ i (k+smk mk (xs.take i)) hi (hlen i (by omega)) ?_ (by omega),Xx hi hl,Tu hi,FO,FN,Nat.add_assoc]
  have h':i<(mkd mk m (xs.take i) k++xs.drop i).length:=by rw[hlen i (by omega)];exact hi
  rw[bJ h',bJ hi,List.getElem_append_right (by omega)]
  simp[hl]) (by
  have:=hend (mkd mk m (xs.take xs.length) k++xs.drop xs.length) (k+smk mk (xs.take xs.length)) (hlen _ (aD _))
  exact this) (vx hN)
 simpa [mkd,smk] using this
theorem FU {f:Int×Int->Option AC } (xs:List α) (mk:α->Nat) (m:α->Nat->α) (hN:xs.length<=9223372036854775807) {k:Nat} (hk:k+smk mk xs<=4611686018427387904)
  (hstep: ∀(i k':Nat),i<xs.length->nth (mkd mk m xs k) (i:Int)=m (nth xs (i:Int)) k'->k'+mk (nth xs (i:Int))<=4611686018427387904->f ((k':Int),(i:Int))=some (.nxt (((k'+mk (nth xs (i:Int)):Nat):Int),((i+1:Nat):Int))))
  (hend: ∀(k':Nat),f ((k':Int),(xs.length:Int))=some (.brk ((k':Int),(xs.length:Int)))) :
  ax f aT ((k:Int),0)=some (.brk (((k+smk mk xs:Nat):Int),(xs.length:Int))):=by
 have:=bp (f:=f) (fun i=>(((k+smk mk (xs.take i):Nat):Int),(i:Int))) xs.length (fun i hi=>by
  have hle:=Qh mk xs (i+1)
  rw[FQ mk hi] at hle
  rw[hstep i (k+smk mk (xs.take i)) hi (Zc mk m xs k hi) (by omega),FQ mk hi,Nat.add_assoc]) (hend _) (vx hN)
 simpa [smk] using this
end
end D
set_option synthInstance.maxSize 20000
set_option synthInstance.maxHeartbeats 2000000
namespace D
open Go.RowKit
theorem lL {α:Type} {xs:List α} {i:Nat} {x:α} (h:i<xs.length):aQ (xs.set i x) (i:Int)=some x:=by
 rw[aC (by rw[List.length_set];exact h)];simp
theorem Na {n:Nat} :decide ((n:Int)<0)=false:=by simp only[decide_eq_false_iff_not];omega
def eT (x:Int):Nat:=1
def Cv (x:Int) (k:Nat):Int:=((k:Nat):Int)
theorem Qi (xs:List Int) (hx:Data.sm xs):smk eT xs<=1048576*1:=by
 obtain ⟨h1,h2⟩:=aH hx
 have b:=jP eT (B:=1) xs (fun x hx=>by
  simp[eT])
 exact Nat.le_trans b (Nat.mul_le_mul_right _ h1)
theorem Qj (xs:List Int) (hx:Data.sm xs) {k:Nat} (hk:k+smk eT xs<=4611686018427387904):mZ xs (k:Int)=some (((k+smk eT xs:Nat):Int),mkd eT Cv xs k):=by
 obtain ⟨hN,hs⟩:=aH hx
 unfold mZ
 rw[ay (FR (f:=lC) xs eT Cv (by omega) hk (fun ys i k hi hl he hk=>by
  have hz0:=hs _ (b9 (xs:=xs) (i:=(i:Int)) (by omega) (by omega))
  unfold lC
  have hi':i<ys.length:=by omega
  generalize hz:nth xs (i:Int)=z at *
  have hk':k+(1)<=4611686018427387904:=hk
  simp only
  rw[if_pos (by simp;omega),aI (by omega) (by omega),he]
  simp only[aa,Int.toNat_natCast,lL hi',List.set_set,af (show i<9223372036854775807 by omega),af (show k<9223372036854775807 by omega)]
  have e:k+eT z=k+1:=by unfold eT;omega
  rw[e];rfl) (fun ys k hl=>by
  unfold lC
  simp only
  rw[if_neg (by simp;omega)]))]
theorem Qk (xs:List Int) (hx:Data.sm xs) {k:Nat} (hk:k+smk eT xs<=4611686018427387904):na (mkd eT Cv xs k) (k:Int)=some ((k+smk eT xs:Nat):Int):=by
 obtain ⟨hN,hs⟩:=aH hx
 unfold na
 rw[ay (FU (f:=lE _) xs eT Cv (by omega) hk (fun i k' hi he hk=>by
  have hz0:=hs _ (b9 (xs:=xs) (i:=(i:Int)) (by omega) (by omega))
  unfold lE
  generalize hz:nth xs (i:Int)=z at *
  have hk':k'+(1)<=4611686018427387904:=hk
  simp only
  rw[if_pos (by simp[bh];omega),aI (by omega) (by rw[bh];omega),he]
  simp only[Cv,aa,bne_self_eq_false,Bool.false_eq_true,if_false,Na,af (show i<9223372036854775807 by omega),af (show k'<9223372036854775807 by omega)]
  have e:k'+eT z=k'+1:=by unfold eT;omega
  rw[e]) (fun k'=>by
  unfold lE
  simp only
  rw[if_neg (by simp[bh])]))]
def fA (x:Int×Int×Int×Int):Nat:=1+1+1+1
def yM (x:Int×Int×Int×Int) (k:Nat):Int×Int×Int×Int:=(((k:Nat):Int),((k+1:Nat):Int),((k+1+1:Nat):Int),((k+1+1+1:Nat):Int))
theorem Tv (xs:List Yq1) (hx:Data.sm xs):smk fA xs<=1048576*4:=by
 obtain ⟨h1,h2⟩:=aH hx
 have b:=jP fA (B:=4) xs (fun x hx=>by
  simp[fA])
 exact Nat.le_trans b (Nat.mul_le_mul_right _ h1)
theorem Tw (xs:List Yq1) (hx:Data.sm xs) {k:Nat} (hk:k+smk fA xs<=4611686018427387904):nO xs (k:Int)=some (((k+smk fA xs:Nat):Int),mkd fA yM xs k):=by
 obtain ⟨hN,hs⟩:=aH hx
 unfold nO
 rw[ay (FR (f:=j5) xs fA yM (by omega) hk (fun ys i k hi hl he hk=>by
  have hz0:=hs _ (b9 (xs:=xs) (i:=(i:Int)) (by omega) (by omega))
  unfold j5
  have hi':i<ys.length:=by omega
  generalize hz:nth xs (i:Int)=z at *
  have hk':k+(1+1+1+1)<=4611686018427387904:=hk
  simp only
  rw[if_pos (by simp;omega),aI (by omega) (by omega),he]
  simp only[aa,Int.toNat_natCast,lL hi',List.set_set,af (show i<9223372036854775807 by omega),af (show k<9223372036854775807 by omega),af (show k+1<9223372036854775807 by omega),af (show k+1+1<9223372036854775807 by omega),af (show k+1+1+1<9223372036854775807 by omega)]
  have e:k+fA z=k+1+1+1+1:=by unfold fA;omega
  rw[e];rfl) (fun ys k hl=>by
  unfold j5
  simp only
  rw[if_neg (by simp;omega)]))]
theorem Tx (xs:List Yq1) (hx:Data.sm xs) {k:Nat} (hk:k+smk fA xs<=4611686018427387904):nR (mkd fA yM xs k) (k:Int)=some ((k+smk fA xs:Nat):Int):=by
 obtain ⟨hN,hs⟩:=aH hx
 unfold nR
 rw[ay (FU (f:=j9 _) xs fA yM (by omega) hk (fun i k' hi he hk=>by
  have hz0:=hs _ (b9 (xs:=xs) (i:=(i:Int)) (by omega) (by omega))
  unfold j9
  generalize hz:nth xs (i:Int)=z at *
  have hk':k'+(1+1+1+1)<=4611686018427387904:=hk
  simp only
  rw[if_pos (by simp[bh];omega),aI (by omega) (by rw[bh];omega),he]
  simp only[yM,aa,bne_self_eq_false,Bool.false_eq_true,if_false,Na,af (show i<9223372036854775807 by omega),af (show k'<9223372036854775807 by omega),af (show k'+1<9223372036854775807 by omega),af (show k'+1+1<9223372036854775807 by omega),af (show k'+1+1+1<9223372036854775807 by omega)]
  have e:k'+fA z=k'+1+1+1+1:=by unfold fA;omega
  rw[e]) (fun k'=>by
  unfold j9
  simp only
  rw[if_neg (by simp[bh])]))]
def dW (x:(List Int)×(List Yq1)):Nat:=smk eT (x.1)+smk fA (x.2)
def uE (x:(List Int)×(List Yq1)) (k:Nat):(List Int)×(List Yq1):=(mkd eT Cv (x.1) (k),mkd fA yM (x.2) (k+smk eT (x.1)))
theorem Ql (xs:List Yq4) (hx:Data.sm xs):smk dW xs<=1048576*5242880:=by
 obtain ⟨h1,h2⟩:=aH hx
 have b:=jP dW (B:=5242880) xs (fun x hx=>by
  have hs:=h2 x hx
  have q0:=Qi (x.1) hs.1
  have q1:=Tv (x.2) hs.2
  unfold dW;omega)
 exact Nat.le_trans b (Nat.mul_le_mul_right _ h1)
theorem Qm (xs:List Yq4) (hx:Data.sm xs) {k:Nat} (hk:k+smk dW xs<=4611686018427387904):mM xs (k:Int)=some (((k+smk dW xs:Nat):Int),mkd dW uE xs k):=by
 obtain ⟨hN,hs⟩:=aH hx
 unfold mM
 rw[ay (FR (f:=jn) xs dW uE (by omega) hk (fun ys i k hi hl he hk=>by
  have hz0:=hs _ (b9 (xs:=xs) (i:=(i:Int)) (by omega) (by omega))
  unfold jn
  have hi':i<ys.length:=by omega
  generalize hz:nth xs (i:Int)=z at *
  have hk':k+(smk eT (z.1)+smk fA (z.2))<=4611686018427387904:=hk
  have m0:=Qj (z.1) hz0.1 (k:=k) (by omega)
  have m1:=Tw (z.2) hz0.2 (k:=k+smk eT (z.1)) (by omega)
  simp only
  rw[if_pos (by simp;omega),aI (by omega) (by omega),he]
  simp only[aa,Int.toNat_natCast,lL hi',List.set_set,af (show i<9223372036854775807 by omega),m0,m1]
  have e:k+dW z=k+smk eT (z.1)+smk fA (z.2):=by unfold dW;omega
  rw[e];rfl) (fun ys k hl=>by
  unfold jn
  simp only
  rw[if_neg (by simp;omega)]))]
theorem Qn (xs:List Yq4) (hx:Data.sm xs) {k:Nat} (hk:k+smk dW xs<=4611686018427387904):mO (mkd dW uE xs k) (k:Int)=some ((k+smk dW xs:Nat):Int):=by
 obtain ⟨hN,hs⟩:=aH hx
 unfold mO
 rw[ay (FU (f:=jq _) xs dW uE (by omega) hk (fun i k' hi he hk=>by
  have hz0:=hs _ (b9 (xs:=xs) (i:=(i:Int)) (by omega) (by omega))
  unfold jq
  generalize hz:nth xs (i:Int)=z at *
  have hk':k'+(smk eT (z.1)+smk fA (z.2))<=4611686018427387904:=hk
  have m0:=Qk (z.1) hz0.1 (k:=k') (by omega)
  have m1:=Tx (z.2) hz0.2 (k:=k'+smk eT (z.1)) (by omega)
  simp only
  rw[if_pos (by simp[bh];omega),aI (by omega) (by rw[bh];omega),he]
  simp only[uE,aa,bne_self_eq_false,Bool.false_eq_true,if_false,Na,af (show i<9223372036854775807 by omega),m0,m1]
  have e:k'+dW z=k'+smk eT (z.1)+smk fA (z.2):=by unfold dW;omega
  rw[e]) (fun k'=>by
  unfold jq
  simp only
  rw[if_neg (by simp[bh])]))]
def dX (x:Bool):Nat:=1
def yN (x:Bool) (k:Nat):Bool:=((Int.tmod ((k:Nat):Int) 3)==0)
theorem Tz (xs:List Bool) (hx:Data.sm xs):smk dX xs<=1048576*1:=by
 obtain ⟨h1,h2⟩:=aH hx
 have b:=jP dX (B:=1) xs (fun x hx=>by
  simp[dX])
 exact Nat.le_trans b (Nat.mul_le_mul_right _ h1)
theorem TA (xs:List Bool) (hx:Data.sm xs) {k:Nat} (hk:k+smk dX xs<=4611686018427387904):nP xs (k:Int)=some (((k+smk dX xs:Nat):Int),mkd dX yN xs k):=by
 obtain ⟨hN,hs⟩:=aH hx
 unfold nP
 rw[ay (FR (f:=j6) xs dX yN (by omega) hk (fun ys i k hi hl he hk=>by
  have hz0:=hs _ (b9 (xs:=xs) (i:=(i:Int)) (by omega) (by omega))
  unfold j6
  have hi':i<ys.length:=by omega
  generalize hz:nth xs (i:Int)=z at *
  have hk':k+(1)<=4611686018427387904:=hk
  simp only
  rw[if_pos (by simp;omega),aI (by omega) (by omega),he]
  simp only[aa,Int.toNat_natCast,lL hi',List.set_set,af (show i<9223372036854775807 by omega),af (show k<9223372036854775807 by omega)]
  have e:k+dX z=k+1:=by unfold dX;omega
  rw[e];rfl) (fun ys k hl=>by
  unfold j6
  simp only
  rw[if_neg (by simp;omega)]))]
theorem TC (xs:List Bool) (hx:Data.sm xs) {k:Nat} (hk:k+smk dX xs<=4611686018427387904):nS (mkd dX yN xs k) (k:Int)=some ((k+smk dX xs:Nat):Int):=by
 obtain ⟨hN,hs⟩:=aH hx
 unfold nS
 rw[ay (FU (f:=ka _) xs dX yN (by omega) hk (fun i k' hi he hk=>by
  have hz0:=hs _ (b9 (xs:=xs) (i:=(i:Int)) (by omega) (by omega))
  unfold ka
  generalize hz:nth xs (i:Int)=z at *
  have hk':k'+(1)<=4611686018427387904:=hk
  simp only
  rw[if_pos (by simp[bh];omega),aI (by omega) (by rw[bh];omega),he]
  simp only[yN,aa,bne_self_eq_false,Bool.false_eq_true,if_false,Na,af (show i<9223372036854775807 by omega),af (show k'<9223372036854775807 by omega)]
  have e:k'+dX z=k'+1:=by unfold dX;omega
  rw[e]) (fun k'=>by
  unfold ka
  simp only
  rw[if_neg (by simp[bh])]))]
def fB (x:List Int):Nat:=smk eT (x)
def yO (x:List Int) (k:Nat):List Int:=mkd eT Cv x k
theorem TE (xs:List (List Int)) (hx:Data.sm xs):smk fB xs<=1048576*1048576:=by
 obtain ⟨h1,h2⟩:=aH hx
 have b:=jP fB (B:=1048576) xs (fun x hx=>by
  have hs:=h2 x hx
  have q0:=Qi (x) hs
  unfold fB;omega)
 exact Nat.le_trans b (Nat.mul_le_mul_right _ h1)
theorem TG (xs:List (List Int)) (hx:Data.sm xs) {k:Nat} (hk:k+smk fB xs<=4611686018427387904):nQ xs (k:Int)=some (((k+smk fB xs:Nat):Int),mkd fB yO xs k):=by
 obtain ⟨hN,hs⟩:=aH hx
 unfold nQ
 rw[ay (FR (f:=j7) xs fB yO (by omega) hk (fun ys i k hi hl he hk=>by
  have hz0:=hs _ (b9 (xs:=xs) (i:=(i:Int)) (by omega) (by omega))
  unfold j7
  have hi':i<ys.length:=by omega
  generalize hz:nth xs (i:Int)=z at *
  have hk':k+(smk eT (z))<=4611686018427387904:=hk
  have m0:=Qj (z) hz0 (k:=k) (by omega)
  simp only
  rw[if_pos (by simp;omega),aI (by omega) (by omega),he]
  simp only[aa,Int.toNat_natCast,lL hi',List.set_set,af (show i<9223372036854775807 by omega),m0]
  have e:k+fB z=k+smk eT (z):=by unfold fB;omega
  rw[e];rfl) (fun ys k hl=>by
  unfold j7
  simp only
  rw[if_neg (by simp;omega)]))]
theorem TH (xs:List (List Int)) (hx:Data.sm xs) {k:Nat} (hk:k+smk fB xs<=4611686018427387904):nT (mkd fB yO xs k) (k:Int)=some ((k+smk fB xs:Nat):Int):=by
 obtain ⟨hN,hs⟩:=aH hx
 unfold nT
 rw[ay (FU (f:=kd _) xs fB yO (by omega) hk (fun i k' hi he hk=>by
  have hz0:=hs _ (b9 (xs:=xs) (i:=(i:Int)) (by omega) (by omega))
  unfold kd
  generalize hz:nth xs (i:Int)=z at *
  have hk':k'+(smk eT (z))<=4611686018427387904:=hk
  have m0:=Qk (z) hz0 (k:=k') (by omega)
  simp only
  rw[if_pos (by simp[bh];omega),aI (by omega) (by rw[bh];omega),he]
  simp only[yO,aa,bne_self_eq_false,Bool.false_eq_true,if_false,Na,af (show i<9223372036854775807 by omega),m0]
  have e:k'+fB z=k'+smk eT (z):=by unfold fB;omega
  rw[e]) (fun k'=>by
  unfold kd
  simp only
  rw[if_neg (by simp[bh])]))]
def bu (x:Int×(List Bool)×(List (List Int))):Nat:=1+smk dX (x.2.1)+smk fB (x.2.2)
def kJ (x:Int×(List Bool)×(List (List Int))) (k:Nat):Int×(List Bool)×(List (List Int)):=(((k:Nat):Int),mkd dX yN (x.2.1) (k+1),mkd fB yO (x.2.2) (k+1+smk dX (x.2.1)))
theorem FV (xs:List Yq2) (hx:Data.sm xs):smk bu xs<=1048576*1099512676353:=by
 obtain ⟨h1,h2⟩:=aH hx
 have b:=jP bu (B:=1099512676353) xs (fun x hx=>by
  have hs:=h2 x hx
  have q0:=Tz (x.2.1) hs.2.1
  have q1:=TE (x.2.2) hs.2.2
  unfold bu;omega)
 exact Nat.le_trans b (Nat.mul_le_mul_right _ h1)
theorem FW (xs:List Yq2) (hx:Data.sm xs) {k:Nat} (hk:k+smk bu xs<=4611686018427387904):ir xs (k:Int)=some (((k+smk bu xs:Nat):Int),mkd bu kJ xs k):=by
 obtain ⟨hN,hs⟩:=aH hx
 unfold ir
 rw[ay (FR (f:=fj) xs bu kJ (by omega) hk (fun ys i k hi hl he hk=>by
  have hz0:=hs _ (b9 (xs:=xs) (i:=(i:Int)) (by omega) (by omega))
  unfold fj
  have hi':i<ys.length:=by omega
  generalize hz:nth xs (i:Int)=z at *
  have hk':k+(1+smk dX (z.2.1)+smk fB (z.2.2))<=4611686018427387904:=hk
  have m0:=TA (z.2.1) hz0.2.1 (k:=k+1) (by omega)
  have m1:=TG (z.2.2) hz0.2.2 (k:=k+1+smk dX (z.2.1)) (by omega)
  simp only
  rw[if_pos (by simp;omega),aI (by omega) (by omega),he]
  simp only[aa,Int.toNat_natCast,lL hi',List.set_set,af (show i<9223372036854775807 by omega),af (show k<9223372036854775807 by omega),m0,m1]
  have e:k+bu z=k+1+smk dX (z.2.1)+smk fB (z.2.2):=by unfold bu;omega
  rw[e];rfl) (fun ys k hl=>by
  unfold fj
  simp only
  rw[if_neg (by simp;omega)]))]
theorem FX (xs:List Yq2) (hx:Data.sm xs) {k:Nat} (hk:k+smk bu xs<=4611686018427387904):iu (mkd bu kJ xs k) (k:Int)=some ((k+smk bu xs:Nat):Int):=by
 obtain ⟨hN,hs⟩:=aH hx
 unfold iu
 rw[ay (FU (f:=fl _) xs bu kJ (by omega) hk (fun i k' hi he hk=>by
  have hz0:=hs _ (b9 (xs:=xs) (i:=(i:Int)) (by omega) (by omega))
  unfold fl
  generalize hz:nth xs (i:Int)=z at *
  have hk':k'+(1+smk dX (z.2.1)+smk fB (z.2.2))<=4611686018427387904:=hk
  have m0:=TC (z.2.1) hz0.2.1 (k:=k'+1) (by omega)
  have m1:=TH (z.2.2) hz0.2.2 (k:=k'+1+smk dX (z.2.1)) (by omega)
  simp only
  rw[if_pos (by simp[bh];omega),aI (by omega) (by rw[bh];omega),he]
  simp only[kJ,aa,bne_self_eq_false,Bool.false_eq_true,if_false,Na,af (show i<9223372036854775807 by omega),af (show k'<9223372036854775807 by omega),m0,m1]
  have e:k'+bu z=k'+1+smk dX (z.2.1)+smk fB (z.2.2):=by unfold bu;omega
  rw[e]) (fun k'=>by
  unfold fl
  simp only
  rw[if_neg (by simp[bh])]))]
def cS (x:Int×Int×Int×Int):Nat:=1+1+1+1
def uF (x:Int×Int×Int×Int) (k:Nat):Int×Int×Int×Int:=(((k:Nat):Int),((k+1:Nat):Int),((k+1+1:Nat):Int),((k+1+1+1:Nat):Int))
theorem Qo (xs:List Yq1) (hx:Data.sm xs):smk cS xs<=1048576*4:=by
 obtain ⟨h1,h2⟩:=aH hx
 have b:=jP cS (B:=4) xs (fun x hx=>by
  simp[cS])
 exact Nat.le_trans b (Nat.mul_le_mul_right _ h1)
theorem Qp (xs:List Yq1) (hx:Data.sm xs) {k:Nat} (hk:k+smk cS xs<=4611686018427387904):mN xs (k:Int)=some (((k+smk cS xs:Nat):Int),mkd cS uF xs k):=by
 obtain ⟨hN,hs⟩:=aH hx
 unfold mN
 rw[ay (FR (f:=jo) xs cS uF (by omega) hk (fun ys i k hi hl he hk=>by
  have hz0:=hs _ (b9 (xs:=xs) (i:=(i:Int)) (by omega) (by omega))
  unfold jo
  have hi':i<ys.length:=by omega
  generalize hz:nth xs (i:Int)=z at *
  have hk':k+(1+1+1+1)<=4611686018427387904:=hk
  simp only
  rw[if_pos (by simp;omega),aI (by omega) (by omega),he]
  simp only[aa,Int.toNat_natCast,lL hi',List.set_set,af (show i<9223372036854775807 by omega),af (show k<9223372036854775807 by omega),af (show k+1<9223372036854775807 by omega),af (show k+1+1<9223372036854775807 by omega),af (show k+1+1+1<9223372036854775807 by omega)]
  have e:k+cS z=k+1+1+1+1:=by unfold cS;omega
  rw[e];rfl) (fun ys k hl=>by
  unfold jo
  simp only
  rw[if_neg (by simp;omega)]))]
theorem Qq (xs:List Yq1) (hx:Data.sm xs) {k:Nat} (hk:k+smk cS xs<=4611686018427387904):mP (mkd cS uF xs k) (k:Int)=some ((k+smk cS xs:Nat):Int):=by
 obtain ⟨hN,hs⟩:=aH hx
 unfold mP
 rw[ay (FU (f:=jr _) xs cS uF (by omega) hk (fun i k' hi he hk=>by
  have hz0:=hs _ (b9 (xs:=xs) (i:=(i:Int)) (by omega) (by omega))
  unfold jr
  generalize hz:nth xs (i:Int)=z at *
  have hk':k'+(1+1+1+1)<=4611686018427387904:=hk
  simp only
  rw[if_pos (by simp[bh];omega),aI (by omega) (by rw[bh];omega),he]
  simp only[uF,aa,bne_self_eq_false,Bool.false_eq_true,if_false,Na,af (show i<9223372036854775807 by omega),af (show k'<9223372036854775807 by omega),af (show k'+1<9223372036854775807 by omega),af (show k'+1+1<9223372036854775807 by omega),af (show k'+1+1+1<9223372036854775807 by omega)]
  have e:k'+cS z=k'+1+1+1+1:=by unfold cS;omega
  rw[e]) (fun k'=>by
  unfold jr
  simp only
  rw[if_neg (by simp[bh])]))]
def bw (x:Int×((List Yq1))×Int):Nat:=1+smk cS (x.2.1)+1
def jv (x:Int×((List Yq1))×Int) (k:Nat):Int×((List Yq1))×Int:=(((k:Nat):Int),mkd cS uF (x.2.1) (k+1),((k+1+smk cS (x.2.1):Nat):Int))
theorem Du (xs:List Yq3) (hx:Data.sm xs):smk bw xs<=1048576*4194306:=by
 obtain ⟨h1,h2⟩:=aH hx
 have b:=jP bw (B:=4194306) xs (fun x hx=>by
  have hs:=h2 x hx
  have q0:=Qo (x.2.1) hs.2.1
  unfold bw;omega)
 exact Nat.le_trans b (Nat.mul_le_mul_right _ h1)
theorem Dv (xs:List Yq3) (hx:Data.sm xs) {k:Nat} (hk:k+smk bw xs<=4611686018427387904):gL xs (k:Int)=some (((k+smk bw xs:Nat):Int),mkd bw jv xs k):=by
 obtain ⟨hN,hs⟩:=aH hx
 unfold gL
 rw[ay (FR (f:=eO) xs bw jv (by omega) hk (fun ys i k hi hl he hk=>by
  have hz0:=hs _ (b9 (xs:=xs) (i:=(i:Int)) (by omega) (by omega))
  unfold eO
  have hi':i<ys.length:=by omega
  generalize hz:nth xs (i:Int)=z at *
  have hk':k+(1+smk cS (z.2.1)+1)<=4611686018427387904:=hk
  have m0:=Qp (z.2.1) hz0.2.1 (k:=k+1) (by omega)
  simp only
  rw[if_pos (by simp;omega),aI (by omega) (by omega),he]
  simp only[aa,Int.toNat_natCast,lL hi',List.set_set,af (show i<9223372036854775807 by omega),af (show k<9223372036854775807 by omega),af (show k+1+smk cS (z.2.1)<9223372036854775807 by omega),m0]
  have e:k+bw z=k+1+smk cS (z.2.1)+1:=by unfold bw;omega
  rw[e];rfl) (fun ys k hl=>by
  unfold eO
  simp only
  rw[if_neg (by simp;omega)]))]
theorem Dw (xs:List Yq3) (hx:Data.sm xs) {k:Nat} (hk:k+smk bw xs<=4611686018427387904):gN (mkd bw jv xs k) (k:Int)=some ((k+smk bw xs:Nat):Int):=by
 obtain ⟨hN,hs⟩:=aH hx
 unfold gN
 rw[ay (FU (f:=eQ _) xs bw jv (by omega) hk (fun i k' hi he hk=>by
  have hz0:=hs _ (b9 (xs:=xs) (i:=(i:Int)) (by omega) (by omega))
  unfold eQ
  generalize hz:nth xs (i:Int)=z at *
  have hk':k'+(1+smk cS (z.2.1)+1)<=4611686018427387904:=hk
  have m0:=Qq (z.2.1) hz0.2.1 (k:=k'+1) (by omega)
  simp only
  rw[if_pos (by simp[bh];omega),aI (by omega) (by rw[bh];omega),he]
  simp only[jv,aa,bne_self_eq_false,Bool.false_eq_true,if_false,Na,af (show i<9223372036854775807 by omega),af (show k'<9223372036854775807 by omega),af (show k'+1+smk cS (z.2.1)<9223372036854775807 by omega),m0]
  have e:k'+bw z=k'+1+smk cS (z.2.1)+1:=by unfold bw;omega
  rw[e]) (fun k'=>by
  unfold eQ
  simp only
  rw[if_neg (by simp[bh])]))]
def bz (x:Int×Int×Int):Nat:=1+1+1
def jw (x:Int×Int×Int) (k:Nat):Int×Int×Int:=(((k:Nat):Int),((k+1:Nat):Int),((k+1+1:Nat):Int))
theorem Dx (xs:List GB) (hx:Data.sm xs):smk bz xs<=1048576*3:=by
 obtain ⟨h1,h2⟩:=aH hx
 have b:=jP bz (B:=3) xs (fun x hx=>by
  simp[bz])
 exact Nat.le_trans b (Nat.mul_le_mul_right _ h1)
theorem Dy (xs:List GB) (hx:Data.sm xs) {k:Nat} (hk:k+smk bz xs<=4611686018427387904):gM xs (k:Int)=some (((k+smk bz xs:Nat):Int),mkd bz jw xs k):=by
 obtain ⟨hN,hs⟩:=aH hx
 unfold gM
 rw[ay (FR (f:=eP) xs bz jw (by omega) hk (fun ys i k hi hl he hk=>by
  have hz0:=hs _ (b9 (xs:=xs) (i:=(i:Int)) (by omega) (by omega))
  unfold eP
  have hi':i<ys.length:=by omega
  generalize hz:nth xs (i:Int)=z at *
  have hk':k+(1+1+1)<=4611686018427387904:=hk
  simp only
  rw[if_pos (by simp;omega),aI (by omega) (by omega),he]
  simp only[aa,Int.toNat_natCast,lL hi',List.set_set,af (show i<9223372036854775807 by omega),af (show k<9223372036854775807 by omega),af (show k+1<9223372036854775807 by omega),af (show k+1+1<9223372036854775807 by omega)]
  have e:k+bz z=k+1+1+1:=by unfold bz;omega
  rw[e];rfl) (fun ys k hl=>by
  unfold eP
  simp only
  rw[if_neg (by simp;omega)]))]
theorem Dz (xs:List GB) (hx:Data.sm xs) {k:Nat} (hk:k+smk bz xs<=4611686018427387904):gO (mkd bz jw xs k) (k:Int)=some ((k+smk bz xs:Nat):Int):=by
 obtain ⟨hN,hs⟩:=aH hx
 unfold gO
 rw[ay (FU (f:=eR _) xs bz jw (by omega) hk (fun i k' hi he hk=>by
  have hz0:=hs _ (b9 (xs:=xs) (i:=(i:Int)) (by omega) (by omega))
  unfold eR
  generalize hz:nth xs (i:Int)=z at *
  have hk':k'+(1+1+1)<=4611686018427387904:=hk
  simp only
  rw[if_pos (by simp[bh];omega),aI (by omega) (by rw[bh];omega),he]
  simp only[jw,aa,bne_self_eq_false,Bool.false_eq_true,if_false,Na,af (show i<9223372036854775807 by omega),af (show k'<9223372036854775807 by omega),af (show k'+1<9223372036854775807 by omega),af (show k'+1+1<9223372036854775807 by omega)]
  have e:k'+bz z=k'+1+1+1:=by unfold bz;omega
  rw[e]) (fun k'=>by
  unfold eR
  simp only
  rw[if_neg (by simp[bh])]))]
def cF (x:Int×(List Yq4)):Nat:=smk dW (x.2)
def xB (x:Int×(List Yq4)) (k:Nat):Int×(List Yq4):=(x.1,mkd dW uE (x.2) (k))
theorem Nb (x:Int×(List Yq4)) (hx:Data.sm x):cF x<=5497558138880:=by
 have q0:=Ql (x.2) hx.2
 unfold cF;omega
theorem Nc (x:Int×(List Yq4)) (hx:Data.sm x) {k:Nat} (hk:k+cF x<=4611686018427387904):lD x (k:Int)=some (((k+cF x:Nat):Int),xB x k):=by
 unfold cF at hk
 have m0:=Qm (x.2) hx.2 (k:=k) (by omega)
 unfold lD
 simp only[dM,aa,m0]
 have e:k+cF x=k+smk dW (x.2):=by unfold cF;omega
 rw[e];rfl
theorem Nd (x:Int×(List Yq4)) (hx:Data.sm x) {k:Nat} (hk:k+cF x<=4611686018427387904):lF (xB x k) (k:Int)=some ((k+cF x:Nat):Int):=by
 unfold cF at hk
 have m0:=Qn (x.2) hx.2 (k:=k) (by omega)
 unfold lF xB
 simp only[dM,aa,Bool.false_eq_true,if_false,Na,m0]
 have e:k+cF x=k+smk dW (x.2):=by unfold cF;omega
 rw[e]
def cD (x:(List Yq2)×(List Yq3)):Nat:=smk bu (x.1)+smk bw (x.2)
def uG (x:(List Yq2)×(List Yq3)) (k:Nat):(List Yq2)×(List Yq3):=(mkd bu kJ (x.1) (k),mkd bw jv (x.2) (k+smk bu (x.1)))
theorem JT (x:(List Yq2)×(List Yq3)) (hx:Data.sm x):cD x<=1152927002168131584:=by
 have q0:=FV (x.1) hx.1
 have q1:=Du (x.2) hx.2
 unfold cD;omega
theorem JU (x:(List Yq2)×(List Yq3)) (hx:Data.sm x) {k:Nat} (hk:k+cD x<=4611686018427387904):j8 x (k:Int)=some (((k+cD x:Nat):Int),uG x k):=by
 unfold cD at hk
 have m0:=FW (x.1) hx.1 (k:=k) (by omega)
 have m1:=Dv (x.2) hx.2 (k:=k+smk bu (x.1)) (by omega)
 unfold j8
 simp only[dM,aa,m0,m1]
 have e:k+cD x=k+smk bu (x.1)+smk bw (x.2):=by unfold cD;omega
 rw[e];rfl
theorem JV (x:(List Yq2)×(List Yq3)) (hx:Data.sm x) {k:Nat} (hk:k+cD x<=4611686018427387904):ke (uG x k) (k:Int)=some ((k+cD x:Nat):Int):=by
 unfold cD at hk
 have m0:=FX (x.1) hx.1 (k:=k) (by omega)
 have m1:=Dw (x.2) hx.2 (k:=k+smk bu (x.1)) (by omega)
 unfold ke uG
 simp only[dM,aa,Bool.false_eq_true,if_false,Na,m0,m1]
 have e:k+cD x=k+smk bu (x.1)+smk bw (x.2):=by unfold cD;omega
 rw[e]
def kl (x:uj×Yq8×Yq7×ByteArray):Nat:=cF (x.1)+cD (x.2.1)+smk bz (x.2.2.1)
def uH (x:uj×Yq8×Yq7×ByteArray) (k:Nat):uj×Yq8×Yq7×ByteArray:=(xB (x.1) (k),uG (x.2.1) (k+cF (x.1)),mkd bz jw (x.2.2.1) (k+cF (x.1)+cD (x.2.1)),x.2.2.2)
theorem Ij (x:uj×Yq8×Yq7×ByteArray) (hx:Data.sm x):kl x<=1152932499729416192:=by
 have q0:=Nb (x.1) hx.1
 have q1:=JT (x.2.1) hx.2.1
 have q2:=Dx (x.2.2.1) hx.2.2.1
 unfold kl;omega
theorem Ik (x:uj×Yq8×Yq7×ByteArray) (hx:Data.sm x) {k:Nat} (hk:k+kl x<=4611686018427387904):fx x (k:Int)=some (((k+kl x:Nat):Int),uH x k):=by
 unfold kl at hk
 have m0:=Nc (x.1) hx.1 (k:=k) (by omega)
 have m1:=JU (x.2.1) hx.2.1 (k:=k+cF (x.1)) (by omega)
 have m2:=Dy (x.2.2.1) hx.2.2.1 (k:=k+cF (x.1)+cD (x.2.1)) (by omega)
 unfold fx
 simp only[dM,aa,m0,m1,m2]
 have e:k+kl x=k+cF (x.1)+cD (x.2.1)+smk bz (x.2.2.1):=by unfold kl;omega
 rw[e];rfl
theorem Qr (x:uj×Yq8×Yq7×ByteArray) (hx:Data.sm x) {k:Nat} (hk:k+kl x<=4611686018427387904):hZ (uH x k) (k:Int)=some ((k+kl x:Nat):Int):=by
 unfold kl at hk
 have m0:=Nd (x.1) hx.1 (k:=k) (by omega)
 have m1:=JV (x.2.1) hx.2.1 (k:=k+cF (x.1)) (by omega)
 have m2:=Dz (x.2.2.1) hx.2.2.1 (k:=k+cF (x.1)+cD (x.2.1)) (by omega)
 unfold hZ uH
 simp only[dM,aa,Bool.false_eq_true,if_false,Na,m0,m1,m2]
 have e:k+kl x=k+cF (x.1)+cD (x.2.1)+smk bz (x.2.2.1):=by unfold kl;omega
 rw[e]
end D
namespace D
abbrev Pr:=Int×Int
def ltP (a b:Pr):Prop:=a.1<b.1\/a.1=b.1/\a.2<b.2
instance (a b:Pr):Decidable (ltP a b):=inferInstanceAs (Decidable (_\/_))
end D
namespace D
open Go.RowKit
theorem Qs {α R:Type} {f:Int->Option (Out R Int)} (l:List α) (b:α->Bool) (r:Nat->R) (hN:l.length<=9223372036854775807) (h: ∀i (hi:i<l.length),f (i:Int)=some (if b l[i] then .ret (r i) else .nxt ((i+1:Nat):Int))) (he:f (l.length:Int)=some (.brk (l.length:Int))) :
  (∃(i:Nat) (hi:i<l.length),b l[i] =true/\(∀j (hj:j<i),b (l[j]'(by omega))=false)/\ax f aT 0=some (.ret (r i)))\/((∀x,x∈l->b x=false)/\ax f aT 0=some (.brk (l.length:Int))):=by
 obtain ⟨o,e,hQ⟩:=cR (f:=f) (fun i s=>s=(i:Int)/\ ∀j (hj:j<l.length),j<i->b l[j] =false) (fun o=>(∃(i:Nat) (hi:i<l.length),b l[i] =true/\(∀j (hj:j<i),b (l[j]'(by omega))=false)/\o= .ret (r i))\/((∀x,x∈l->b x=false)/\o= .brk (l.length:Int))) l.length (fun i s hi hI=>by
  obtain ⟨rfl,hI⟩:=hI
  by_cases h1:i<l.length
  ·cases hb:b l[i] with
   | true=>exact .inr ⟨_,by rw[h i h1,hb,if_pos rfl],fun s' hh=>by simp at hh,.inl ⟨i,h1,hb,fun j hj=>hI j (by omega) hj,by simp⟩⟩
   | false=>exact .inl ⟨h1,_,by rw[h i h1,hb,if_neg (by simp)],rfl,fun j hj hji=>by
     by_cases c:j=i
     ·subst c;exact hb
     ·exact hI j hj (by omega)⟩
  ·obtain rfl:i=l.length:=by omega
   exact .inr ⟨_,he,fun s' hh=>by simp at hh,.inr ⟨fun x hx=>by
    obtain ⟨j,hj,rfl⟩:=List.getElem_of_mem hx
    exact hI j hj hj,rfl⟩⟩) (s:=0) ⟨rfl,fun j hj h0=>by omega⟩ (dH _ hN)
 rcases hQ with ⟨i,hi,h1,h2,rfl⟩ | ⟨h1,rfl⟩
 ·exact .inl ⟨i,hi,h1,h2,e⟩
 ·exact .inr ⟨h1,e⟩
section
variable {l m:List Pr} {p:Pr}
end
end D
namespace D
open Go.RowKit
end D
set_option synthInstance.maxSize 20000
set_option synthInstance.maxHeartbeats 2000000
namespace D
open Go.RowKit
end D
set_option synthInstance.maxSize 20000
set_option synthInstance.maxHeartbeats 2000000
namespace D
open Go.RowKit
def mkB (l:List UInt8):ByteArray:=⟨l.toArray⟩
theorem Xy (a b:List UInt8):mkB a++mkB b=mkB (a++b):=ByteArray.ext (by simp[mkB])
theorem bF (a:List UInt8):(mkB a).size=a.length:=by simp[mkB,ByteArray.size]
theorem fp (a:List UInt8):(mkB a).data.toList=a:=by simp[mkB]
theorem El (a b:List UInt8) (h:a.length+b.length<=9223372036854775807):mi (mkB a) (mkB b)=some (mkB (a++b)):=by
 unfold mi chk
 rw[bF,bF,if_pos h,aa,Xy]
theorem abR: ∀d:Fin 10,IntKind.u8.wrap (i64.wrap (48+(d.val:Int)))=48+(d.val:Int):=by decide
theorem abS {d:Nat} (h:d<10):y8 [IntKind.u8.wrap (i64.wrap (48+(d:Int)))] =mkB [UInt8.ofNat (48+d)]:=by
 rw[abR ⟨d,h⟩]
 show ByteArray.empty.push (UInt8.ofNat (48+(d:Int)).toNat)=_
 rw[show (48+(d:Int)).toNat=48+d by omega];rfl
theorem abT (m:Int):(if decide ((Int.tmod m 10)<0) then (some (i64.wrap (-(Int.tmod m 10)))) else (some (Int.tmod m 10)):Option Int)=some ((m.natAbs % 10:Nat):Int):=by
 by_cases h:m<0
 ·obtain ⟨k,rfl⟩: ∃k:Nat,m= -(k:Int):=⟨m.natAbs,by omega⟩
  have e:Int.tmod (-(k:Int)) 10= -((k % 10:Nat):Int):=by rw[Int.neg_tmod];rfl
  rw[e,Int.natAbs_neg,Int.natAbs_natCast]
  by_cases h0:k % 10=0
  ·rw[h0];rfl
  ·rw[if_pos (decide_eq_true (by omega)),Int.neg_neg,fy (by omega) (by omega)]
 ·obtain ⟨k,rfl⟩: ∃k:Nat,m=(k:Int):=⟨m.natAbs,by omega⟩
  have e:Int.tmod (k:Int) 10=((k % 10:Nat):Int):=rfl
  rw[e,if_neg (by simp;omega),Int.natAbs_natCast]
theorem abE {m:Int} (h:I64 m):Rr m 10=m.tdiv 10/\(m.tdiv 10).natAbs=m.natAbs / 10:=by
 have k:(m.tdiv 10).natAbs=m.natAbs / 10:=Int.natAbs_tdiv m 10
 unfold I64 at h
 refine ⟨?_,k⟩
 unfold Rr
 exact fy (by omega) (by omega)
theorem Xz {m:Int} {out:List UInt8} (h0:m≠0) (h:I64 m) (hl:out.length<=1000):dK (m,mkB out)=some (.nxt (m.tdiv 10,mkB (UInt8.ofNat (48+m.natAbs % 10)::out))):=by
 unfold dK
 simp only[]
 rw[if_pos (by simpa using h0),abT,aa,abS (Nat.mod_lt _ (by omega)),El _ _ (by simp;omega),aa,(abE h).1];rfl
theorem U7 (u:Nat):1<=Lib.nDigits u:=by
 by_cases h:u<10
 ·rw[Lib.nDigits_small h];omega
 ·rw[Lib.nDigits_big h];omega
theorem Qt: ∀(k:Nat) (m:Int) (out:List UInt8),m≠0->I64 m->Lib.nDigits m.natAbs<=k->out.length+Lib.nDigits m.natAbs<=100->ax dK (k+1) (m,mkB out)=some (.brk (0,mkB (Lib.decDigits m.natAbs++out)))
 | 0,m,out,_,_,h,_=>by have:=U7 m.natAbs;omega
 | k+1,m,out,h0,hm,h,hl=>by
  rw[ax,Xz h0 hm (by omega)]
  show ax dK (k+1) (m.tdiv 10,_)=_
  have hq:=(abE hm).2
  by_cases h1:m.natAbs<10
  ·have hz:m.tdiv 10=0:=by
    have:(m.tdiv 10).natAbs=0:=by rw[hq];omega
    omega
   rw[hz,ax]
   have:dK (0,mkB (UInt8.ofNat (48+m.natAbs % 10)::out))=some (.brk (0,mkB (UInt8.ofNat (48+m.natAbs % 10)::out))):=rfl
   rw[this,Lib.decDigits_one h1,Nat.mod_eq_of_lt h1];rfl
  ·have hz:m.tdiv 10≠0:=by
    intro e
    rw[e] at hq
    have:m.natAbs / 10=0:=by simpa using hq.symm
    omega
   have hn:=Lib.nDigits_big h1
   have hi:I64 (m.tdiv 10):=by unfold I64 at hm⊢;omega
   rw[Qt k _ _ hz hi (by rw[hq];omega) (by rw[hq,al];omega),hq]
   have:Lib.decDigits m.natAbs=Lib.decDigits (m.natAbs / 10)++ [UInt8.ofNat (48+m.natAbs % 10)]:=by rw[Lib.decDigits,dif_neg h1]
   rw[this,ai];rfl
theorem sk {n:Int} (h:I64 n):(Lib.itoa n).length<=21:=Lib.itoa_length_le n h.1 h.2
theorem aaO {n:Int} (h:I64 n):Lib.nDigits n.natAbs<=21:=by
 have:=sk h
 unfold Lib.itoa at this
 split at this
 ·rw[al,Lib.decDigits_length] at this;omega
 ·rw[Lib.decDigits_length] at this
  rw[show n.natAbs=n.toNat by omega];exact this
theorem uI {n:Int} (h:I64 n):cm n=some (mkB (Lib.itoa n)):=by
 unfold cm
 by_cases h0:n=0
 ·subst h0
  rw[if_pos (by rfl:((0:Int)==0)=true)]
  have:Lib.itoa 0= [48]:=by unfold Lib.itoa;rw[if_neg (by decide)];exact Lib.decDigits_one (by decide)
  rw[this];rfl
 rw[if_neg (by simpa using h0)]
 have hn:=aaO h
 have hf:=dH 100 (by omega)
 obtain ⟨k,hk⟩: ∃k,aT=k+1:=⟨aT - 1,by omega⟩
 have hL:ax dK aT (n,(⟨#[]⟩:ByteArray))=some (.brk (0,mkB (Lib.decDigits n.natAbs++ []))):=by
  rw[hk];exact Qt k n [] h0 h (by omega) (by simp;omega)
 rw[ay hL,List.append_nil]
 have hd:(Lib.decDigits n.natAbs).length<=21:=by rw[Lib.decDigits_length];exact hn
 unfold Lib.itoa
 by_cases h1:n<0
 ·rw[if_pos (decide_eq_true h1),if_pos h1]
  show (mi (mkB [45]) _).bind _=_
  rw[El _ _ (by simp;omega)];rfl
 ·rw[if_neg (by simpa using h1),if_neg h1,show n.natAbs=n.toNat by omega]
theorem xC {n:Int} (h:I64 n):dn n=some (mkB (Lib.itoa n)):=by
 unfold dn nl R.Ti chk
 rw[if_pos (show -9223372036854775808<=n/\n<=9223372036854775807 from h)];rfl
theorem Qu (xs:List (List UInt8)) (y sep:List UInt8):Lib.join (xs++ [y]) sep=if xs= [] then y else Lib.join xs sep++sep++y:=by
 cases xs with
 | nil=>rw[if_pos rfl];exact Lib.join_one _ _
 | cons x r =>
  rw[if_neg (by simp),List.cons_append,Lib.join_cons,Lib.join_cons]
  simp[Lib.joinTail,ai]
end D
namespace D
open Go.RowKit
theorem Cw: ∀(a:List UInt8) (acc:Nat) (b:List UInt8),Lib.decFrom acc (a++b)=(Lib.decFrom acc a).bind fun m=>Lib.decFrom m b
 | [],acc,b=>rfl
 | x::a,acc,b=>by
  rw[List.cons_append,Lib.decFrom,Lib.decFrom]
  cases Lib.digitVal x with
  | none=>rfl
  | some d=>exact Cw a _ b
theorem Qv {d:Nat} (h:d<10):Lib.digitVal (UInt8.ofNat (48+d))=some d:=by
 have e:(UInt8.ofNat (48+d)).toNat=48+d:=by simp;omega
 unfold Lib.digitVal
 rw[e,if_pos ⟨by omega,by omega⟩]
 congr 1;omega
theorem AD {u:Nat} (h: ¬u<10):Lib.decDigits u=Lib.decDigits (u / 10)++ [UInt8.ofNat (48+u % 10)]:=by rw[Lib.decDigits,dif_neg h]
theorem JW (u:Nat):Lib.decFrom 0 (Lib.decDigits u)=some u:=by
 induction u using Nat.strongRecOn with
 | _ u ih =>
  by_cases h:u<10
  ·rw[Lib.decDigits_one h,Lib.decFrom,Qv h]
   simp[Lib.decFrom]
  ·rw[AD h,Cw,ih (u / 10) (by omega),aa,Lib.decFrom,Qv (Nat.mod_lt _ (by omega))]
   simp only[Lib.decFrom]
   congr 1;omega
theorem Zd (u:Nat):Lib.decDigits u≠ []:=fun h=>by
 have:=Lib.decDigits_length u
 rw[h] at this
 have:=U7 u
 simp at *;omega
theorem Em (u:Nat):Lib.decNat (Lib.decDigits u)=some u:=by
 unfold Lib.decNat
 rw[if_neg (by simpa using Zd u),JW]
theorem LA (u:Nat): ∃d r,d<10/\Lib.decDigits u=UInt8.ofNat (48+d)::r:=by
 induction u using Nat.strongRecOn with
 | _ u ih =>
  by_cases h:u<10
  ·exact ⟨u,[],h,Lib.decDigits_one h⟩
  ·obtain ⟨d,r,hd,e⟩:=ih (u / 10) (by omega)
   exact ⟨d,_,hd,by rw[AD h,e];rfl⟩
theorem JX {d:Nat} (h:d<10):(UInt8.ofNat (48+d)==45)=false/\(UInt8.ofNat (48+d)==43)=false:=by
 have: ∀d:Fin 10,(UInt8.ofNat (48+d.val)==45)=false/\(UInt8.ofNat (48+d.val)==43)=false:=by decide
 exact this ⟨d,h⟩
theorem Qw (n:Int):Lib.atoi (Lib.itoa n)=some n:=by
 unfold Lib.itoa
 by_cases h:n<0
 ·rw[if_pos h]
  show (Lib.decNat (Lib.decDigits n.natAbs)).map (fun (m:Nat)=> -(m:Int))=_
  rw[Em]
  simp;omega
 ·rw[if_neg h]
  obtain ⟨d,r,hd,e⟩:=LA n.toNat
  have k:=Em n.toNat
  rw[e] at k⊢
  show (if (UInt8.ofNat (48+d)==45)=true then _ else if (UInt8.ofNat (48+d)==43)=true then _ else _)=_
  rw[if_neg (by rw[(JX hd).1];decide),if_neg (by rw[(JX hd).2];decide),k]
  simp;omega
def dst (p:Nat×Nat) (b:UInt8):Nat×Nat:=if 48<=b.toNat/\b.toNat<=57 then (p.1*10+(b.toNat - 48),p.2+1) else p
theorem Qx {d:Nat} (h:d<10) (p:Nat×Nat):dst p (UInt8.ofNat (48+d))=(p.1*10+d,p.2+1):=by
 have e:(UInt8.ofNat (48+d)).toNat=48+d:=by simp;omega
 unfold dst
 rw[e,if_pos ⟨by omega,by omega⟩,show 48+d - 48=d by omega]
theorem Qy (u:Nat):(Lib.decDigits u).foldl dst (0,0)=(u,Lib.nDigits u):=by
 induction u using Nat.strongRecOn with
 | _ u ih =>
  by_cases h:u<10
  ·rw[Lib.decDigits_one h,List.foldl_cons,List.foldl_nil,Qx h,Lib.nDigits_small h];simp
  ·rw[AD h,List.foldl_append,ih (u / 10) (by omega),List.foldl_cons,List.foldl_nil,Qx (Nat.mod_lt _ (by omega)),Lib.nDigits_big h]
   congr 1
   show u / 10*10+u % 10=u
   omega
theorem TJ (n:Int):(Lib.itoa n).foldl dst (0,0)=(n.natAbs,Lib.nDigits n.natAbs):=by
 unfold Lib.itoa
 split
 ·rw[List.foldl_cons,show dst (0,0) 45=(0,0) from rfl,Qy]
 ·rw[Qy,show n.toNat=n.natAbs by omega]
theorem U8: ∀(l:List UInt8) (p:Nat×Nat),p.1<10 ^ p.2->(l.foldl dst p).1<10 ^ (l.foldl dst p).2
 | [],p,h=>h
 | b::l,p,h=>by
  rw[List.foldl_cons]
  refine U8 l _ ?_
  unfold dst
  split
  ·rename_i k
   show p.1*10+(b.toNat - 48)<10 ^ (p.2+1)
   rw[Nat.pow_succ];omega
  ·exact h
theorem U9: ∀(l:List UInt8) (p:Nat×Nat),(l.foldl dst p).2<=p.2+l.length
 | [],p=>by simp
 | b::l,p=>by
  rw[List.foldl_cons]
  have:=U9 l (dst p b)
  have h:(dst p b).2<=p.2+1:=by unfold dst;split <;> simp
  rw[al];omega
end D
namespace D
open Go.RowKit
theorem Ze: ∀(k u:Nat),1<=k->u<10 ^ k->Lib.nDigits u<=k
 | 0,u,h,_=>by omega
 | k+1,u,_,h=>by
  by_cases h1:u<10
  ·rw[Lib.nDigits_small h1];omega
  ·rw[Lib.nDigits_big h1]
   rw[Nat.pow_succ] at h
   have hk:1<=k:=by
    rcases k with _ | k
    ·simp at h;omega
    ·omega
   have:=Ze k (u / 10) hk (by omega)
   omega
theorem u8W: ∀d:Fin 10,i64.wrap (IntKind.u8.wrap (d.val:Int))=(d.val:Int):=by decide
theorem AE {s:ByteArray} {i:Nat} (h:i<s.size):kp s (i:Int)=some (((s.data.toList[i]'(by simpa using h)).toNat:Nat):Int):=by
 unfold kp chk
 rw[if_pos ⟨by omega,by omega⟩]
 simp only[aa]
 rw[show (i:Int).toNat=i by omega,List.getD_eq_getElem?_getD,List.getElem?_eq_getElem (by simpa using h)]
 rfl
def dtk (s:ByteArray) (i:Nat):Nat×Nat:=(s.data.toList.take i).foldl dst (0,0)
theorem Qz (s:ByteArray) (i:Nat):(dtk s i).1<10 ^ (dtk s i).2/\(dtk s i).2<=i:=by
 refine ⟨U8 _ _ (by decide),?_⟩
 have:=U9 (s.data.toList.take i) (0,0)
 rw[aA] at this
 unfold dtk
 omega
theorem XA (s:ByteArray):ax (iT s) aT (0,0,0)=some (.brk (((dtk s (min s.size 11)).1:Int),((dtk s (min s.size 11)).2:Int),((min s.size 11:Nat):Int))):=by
 refine bp (f:=iT s) (fun i=>(((dtk s i).1:Int),((dtk s i).2:Int),(i:Int))) (min s.size 11) (fun i hi=>?_) ?_ (dH _ (by omega))
 ·have h1:i<s.size:=by omega
  have hl:i<s.data.toList.length:=by simpa using h1
  have hd:dtk s (i+1)=dst (dtk s i) (s.data.toList[i]):=by
   unfold dtk
   rw[List.take_succ_eq_append_getElem hl,List.foldl_append];rfl
  obtain ⟨b1,b2⟩:=Qz s i
  have b3:10 ^ (dtk s i).2<=10 ^ 10:=Nat.pow_le_pow_right (by omega) (by omega)
  unfold iT
  simp only[]
  rw[if_pos (decide_eq_true (by omega)),if_pos (decide_eq_true (by omega)),AE h1,hd]
  generalize s.data.toList[i] =b
  generalize dtk s i=p at *
  simp only[aa]
  unfold dst
  by_cases c1:48<=b.toNat
  ·rw[if_pos (decide_eq_true (by omega))]
   by_cases c2:b.toNat<=57
   ·rw[if_pos (decide_eq_true (by omega)),if_pos ⟨c1,c2⟩]
    obtain ⟨d,hd,e⟩: ∃d,d<10/\b.toNat=48+d:=⟨b.toNat - 48,by omega,by omega⟩
    rw[e,show ((48+d:Nat):Int) - 48=(d:Int) by omega,u8W ⟨d,hd⟩]
    simp only[aa]
    rw[fy (n:=(p.1:Int)*10) (by omega) (by omega),fy (by show _<=_+(d:Int);omega) (by show _+(d:Int)<=_;omega),af (by omega),af (by omega)]
    congr 4
    show (p.1:Int)*10+(d:Int)=((p.1*10+(48+d - 48):Nat):Int)
    omega
   ·rw[if_neg (by simp;omega),if_neg (by omega)]
    simp only[aa]
    rw[af (by omega)]
  ·rw[if_neg (by simp;omega),if_neg (by omega)]
   simp only[aa]
   rw[af (by omega)]
 ·unfold iT
  simp only[]
  by_cases h:s.size<=11
  ·rw[Nat.min_eq_left h,if_neg (by simp)]
  ·rw[Nat.min_eq_right (by omega),if_pos (decide_eq_true (by omega)),if_neg (by simp)]
def sgn (s:ByteArray):Int:=if s.data.toList.head? =some 45 then -((dtk s (min s.size 11)).1:Int) else ((dtk s (min s.size 11)).1:Int)
theorem Va (s:ByteArray):(sgn s).natAbs<10 ^ (dtk s (min s.size 11)).2/\(sgn s).natAbs<10 ^ 11:=by
 obtain ⟨b1,b2⟩:=Qz s (min s.size 11)
 have b3:10 ^ (dtk s (min s.size 11)).2<=10 ^ 11:=Nat.pow_le_pow_right (by omega) (by omega)
 have:(sgn s).natAbs=(dtk s (min s.size 11)).1:=by unfold sgn;split <;> omega
 omega
theorem Vc (s:ByteArray):gr s=if 9<(dtk s (min s.size 11)).2\/10<s.size then some (0,false) else if mkB (Lib.itoa (sgn s))=s then some (sgn s,true) else some (0,false):=by
 have hs:=(Va s).2
 have hi:I64 (sgn s):=by unfold I64;omega
 obtain ⟨b1,b2⟩:=Qz s (min s.size 11)
 have b3:10 ^ (dtk s (min s.size 11)).2<=10 ^ 11:=Nat.pow_le_pow_right (by omega) (by omega)
 have fin: ∀z:Int,z=sgn s->(if decide (((dtk s (min s.size 11)).2:Int)>9) then (some (0,false)) else (if decide (((s.size:Nat):Int)>10) then (some (0,false)) else ((cm z).bind fun r10=>if r10 !=s then (some (0,false)) else (some (z,true)))):Option (Int×Bool))=if 9<(dtk s (min s.size 11)).2\/10<s.size then some (0,false) else if mkB (Lib.itoa (sgn s))=s then some (sgn s,true) else some (0,false):=by
  rintro z rfl
  by_cases c1:9<(dtk s (min s.size 11)).2
  ·rw[if_pos (decide_eq_true (by omega)),if_pos (Or.inl c1)]
  ·rw[if_neg (by simp;omega)]
   by_cases c2:10<s.size
   ·rw[if_pos (decide_eq_true (by omega)),if_pos (Or.inr c2)]
   ·rw[if_neg (by simp;omega),if_neg (by omega),uI hi,aa]
    by_cases c3:mkB (Lib.itoa (sgn s))=s
    ·rw[if_pos c3,if_neg (by simp[c3])]
    ·rw[if_neg c3,if_pos (by simpa using c3)]
 unfold gr
 rw[ay (XA s)]
 simp only[]
 by_cases h0:0<s.size
 ·rw[if_pos (decide_eq_true (by omega))]
  have hl:0<s.data.toList.length:=by simpa using h0
  have e0:kp s 0=some (((s.data.toList[0]).toNat:Nat):Int):=AE (i:=0) h0
  have eh:s.data.toList.head? =some s.data.toList[0]:=by rw[List.head?_eq_getElem?,List.getElem?_eq_getElem hl]
  rw[e0,aa]
  by_cases c:s.data.toList[0] =45
  ·rw[if_pos (by rw[c];rfl),aa,fy (by omega) (by omega)]
   exact fin _ (by unfold sgn;rw[eh,if_pos (by rw[c])])
  ·have hn:(s.data.toList[0]).toNat≠45:=fun e=>c (UInt8.toNat_inj.1 e)
   rw[if_neg (fun e=>hn (by have:=eq_of_beq e;omega)),aa]
   exact fin _ (by unfold sgn;rw[eh,if_neg (by simpa using c)])
 ·rw[if_neg (by rw[decide_eq_true_eq];omega)]
  have he:s.data.toList.head? =none:=by
   have:s.data.toList= []:=List.eq_nil_of_length_eq_zero (by
    have:s.data.toList.length=s.size:=by simp
    omega)
   rw[this];rfl
  exact fin _ (by unfold sgn;rw[he,if_neg (by simp)])
theorem TK {n:Int} (h: -999999999<=n/\n<=999999999):Lib.nDigits n.natAbs<=9/\(Lib.itoa n).length<=10:=by
 have k:Lib.nDigits n.natAbs<=9:=Ze 9 _ (by omega) (by omega)
 refine ⟨k,?_⟩
 unfold Lib.itoa
 split
 ·rw[al,Lib.decDigits_length];omega
 ·rw[Lib.decDigits_length,show n.toNat=n.natAbs by omega];omega
theorem QA (n:Int):((Lib.itoa n).head? =some 45)↔n<0:=by
 unfold Lib.itoa
 split
 ·rename_i h;simp[h]
 ·rename_i h
  obtain ⟨d,r,hd,e⟩:=LA n.toNat
  rw[e]
  have:=(JX hd).1
  simp only[List.head?_cons,Option.some.injEq]
  constructor
  ·intro k;rw[k] at this;simp at this
  ·intro k;omega
theorem FY {n:Int} (h: -999999999<=n/\n<=999999999):gr (mkB (Lib.itoa n))=some (n,true)/\gp (mkB (Lib.itoa n))=some (n,true):=by
 obtain ⟨h9,h10⟩:=TK h
 constructor
 ·have ed:dtk (mkB (Lib.itoa n)) (min (mkB (Lib.itoa n)).size 11)=(n.natAbs,Lib.nDigits n.natAbs):=by
   unfold dtk
   rw[fp,bF,Nat.min_eq_left (by omega),List.take_length,TJ]
  have es:sgn (mkB (Lib.itoa n))=n:=by
   unfold sgn
   rw[ed,fp]
   by_cases c:n<0
   ·rw[if_pos ((QA n).2 c)];show -(n.natAbs:Int)=n;omega
   ·rw[if_neg fun k=>c ((QA n).1 k)];show (n.natAbs:Int)=n;omega
  rw[Vc,ed,es,bF,if_neg (by show¬(9<Lib.nDigits n.natAbs\/_);omega),if_pos rfl]
 ·unfold gp R.sQ
  rw[bF,fp,if_neg (by omega),Qw]
  show (if _ then _ else _)=_
  rw[if_pos ⟨rfl,h.1,h.2⟩]
theorem LB {s:ByteArray} (h: ¬ ∃n:Int,(-999999999<=n/\n<=999999999)/\s=mkB (Lib.itoa n)):gr s=some (0,false)/\gp s=some (0,false):=by
 constructor
 ·rw[Vc]
  by_cases c:9<(dtk s (min s.size 11)).2\/10<s.size
  ·rw[if_pos c]
  ·rw[if_neg c,if_neg]
   intro e
   have b1:=(Va s).1
   have b3:10 ^ (dtk s (min s.size 11)).2<=10 ^ 9:=Nat.pow_le_pow_right (by omega) (by omega)
   exact h ⟨sgn s,by omega,e.symm⟩
 ·unfold gp R.sQ
  by_cases c:10<s.size
  ·rw[if_pos c]
  ·rw[if_neg c]
   cases ha:Lib.atoi s.data.toList with
   | none=>rfl
   | some n =>
    show (if _ then _ else _)=_
    rw[if_neg fun k=>h ⟨n,k.2,k.1.symm⟩]
theorem rE (s:ByteArray): ∃r:Int×Bool,gr s=some r/\gp s=some r/\((r.2=true/\(-999999999<=r.1/\r.1<=999999999)/\s=mkB (Lib.itoa r.1))\/r=(0,false)):=by
 by_cases h: ∃n:Int,(-999999999<=n/\n<=999999999)/\s=mkB (Lib.itoa n)
 ·obtain ⟨n,hn,rfl⟩:=h
  exact ⟨_,(FY hn).1,(FY hn).2,.inl ⟨rfl,hn,rfl⟩⟩
 ·exact ⟨_,(LB h).1,(LB h).2,.inr rfl⟩
end D
namespace D
open Go.RowKit
abbrev AutT:=Int×(List Bool)×(List (List Int))
structure VA (a:AutT) (n:Nat):Prop where
 len:a.2.1.length=n
 start:0<=a.1/\a.1<n
 nlen:a.2.2.length=n
 row: ∀r∈a.2.2,r.length=9
 ent: ∀r∈a.2.2,∀t∈r,-1<=t/\t<n
def mv (a:AutT) (s:Int) (k:Nat):Int:=nth (nth a.2.2 s) k
theorem NA (x l h:Int):cZ x l h=some (decide (l<=x/\x<=h)):=by
 unfold cZ
 by_cases c:l<=x
 ·simp[c]
 ·have: ¬l<=x/\True:=⟨c,trivial⟩
  simp[c]
theorem IA (x l h:Int):cd x l h=some (decide (l<=x/\x<=h)):=by
 unfold cd
 by_cases c:l<=x
 ·simp[c]
 ·simp[c]
theorem scan {α R:Type} [Inhabited α] {f:Int->Option (Out R Int)} (xs:List α) (p:α->Prop) [DecidablePred p] (r:R) (hN:xs.length<=9223372036854775807)
  (h: ∀i:Nat,i<xs.length->f (i:Int)=some (if p (nth xs i) then .nxt ((i+1:Nat):Int) else .ret r)) (he:f (xs.length:Int)=some (.brk (xs.length:Int))) :
  (ax f aT 0=some (.brk (xs.length:Int))/\ ∀x∈xs,p x)\/(ax f aT 0=some (.ret r)/\ ¬ ∀x∈xs,p x):=by
 obtain ⟨o,e,hq⟩:=cR (f:=f) (fun i s=>s=(i:Int)/\ ∀j:Nat,j<i->p (nth xs j)) (fun o=>(o= .brk (xs.length:Int)/\ ∀x∈xs,p x)\/(o= .ret r/\ ¬ ∀x∈xs,p x)) xs.length (s:=0) (by
  rintro i s hi ⟨rfl,hp⟩
  by_cases hl:i<xs.length
  ·by_cases c:p (nth xs i)
   ·refine .inl ⟨hl,_,by rw[h i hl,if_pos c],rfl,fun j hj=>?_⟩
    by_cases e:j=i
    ·subst e;exact c
    ·exact hp j (by omega)
   ·refine .inr ⟨_,by rw[h i hl,if_neg c],(fun s' e=>by cases e),.inr ⟨rfl,fun hx=>c (hx _ (b9 (by omega) (by omega)))⟩⟩
  ·obtain rfl:i=xs.length:=by omega
   refine .inr ⟨_,he,(fun s' e=>by cases e),.inl ⟨rfl,fun x hx=>?_⟩⟩
   obtain ⟨j,hj,rfl⟩:=FL hx
   exact hp j hj) ⟨rfl,by omega⟩ (vx hN)
 rcases hq with ⟨rfl,hq⟩ | ⟨rfl,hq⟩
 ·exact .inl ⟨e,hq⟩
 ·exact .inr ⟨e,hq⟩
section
variable {a:AutT} {n:Nat} (V:VA a n)
include V
theorem VA.pos:0<n:=by have:=V.start;omega
theorem VA.rowAt {s:Int} (h0:0<=s) (h1:s<n):(nth a.2.2 s).length=9:=V.row _ (b9 h0 (by rw[V.nlen];exact h1))
theorem VA.mv {s:Int} {k:Nat} (h0:0<=s) (h1:s<n) (hk:k<9): -1<=mv a s k/\mv a s k<n:=
 V.ent _ (b9 h0 (by rw[V.nlen];exact h1)) _ (b9 (by omega) (by rw[V.rowAt h0 h1];omega))
theorem VA.get {s:Int} (h0:0<=s) (h1:s<n):aQ a.2.2 s=some (nth a.2.2 s):=aI h0 (by rw[V.nlen];exact h1)
theorem VA.get2 {s:Int} {k:Nat} (h0:0<=s) (h1:s<n) (hk:k<9):aQ (nth a.2.2 s) (k:Int)=some (D.mv a s k):=aI (by omega) (by rw[V.rowAt h0 h1];omega)
theorem VA.acc {s:Int} (h0:0<=s) (h1:s<n):aQ a.2.1 s=some (nth a.2.1 s):=aI h0 (by rw[V.len];exact h1)
theorem Zf {s:Int} {k:Nat} (h0:0<=s) (h1:s<n) (hk:k<9):fb a s (k:Int)=some (mv a s k):=by
 unfold fb kA
 rw[if_neg (by simp;omega),IA];simp only[aa]
 rw[if_pos (by simp;omega),V.get h0 h1];simp only[aa]
 rw[V.get2 h0 h1 hk];rfl
end
end D
namespace D
open Go.RowKit
theorem FZ (s:ByteArray):gq s=kC s:=by
 have e:ga s=oD s:=by
  funext p
  unfold ga oD
  rw[Int.mul_comm p.1 257]
 unfold gq kC
 rw[e]
theorem Il (s:ByteArray) (h:s.size<=9223372036854775806): ∃r:Int,gq s=some r/\kC s=some r/\0<=r/\r<=9972:=by
 obtain ⟨p,e,h1,h2,h3⟩:=pa (f:=ga s) (fun i p=>p.2=(i:Int)/\0<=p.1/\p.1<=9972) s.size (fun i p hi hI=>by
  obtain ⟨n,j⟩:=p
  obtain ⟨h1,h2,h3⟩:=hI
  simp only at h1 h2 h3
  subst h1
  unfold ga
  simp only[]
  rw[if_pos (decide_eq_true (by omega)),AE hi]
  simp only[aa]
  generalize s.data.toList[i] =b
  have hb:b.toNat<256:=b.toNat_lt
  rw[fy (n:=((b.toNat:Nat):Int)) (by omega) (by omega),fy (n:=n*257) (by omega) (by omega),fy (n:=n*257+(b.toNat:Int)) (by omega) (by omega),fy (n:=n*257+(b.toNat:Int)+1) (by omega) (by omega),af (by omega)]
  refine ⟨_,rfl,rfl,?_,?_⟩
  ·exact Int.tmod_nonneg _ (by omega)
  ·have:Int.tmod (n*257+(b.toNat:Int)+1) 9973<9973:=Int.tmod_lt_of_pos _ (by decide)
   show Int.tmod (n*257+(b.toNat:Int)+1) 9973<=9972
   omega) (fun p hI=>by
  obtain ⟨n,j⟩:=p
  obtain ⟨h1,-⟩:=hI
  simp only at h1
  subst h1
  unfold ga
  simp only[]
  rw[if_neg (by simp)]) (s:=(1,0)) ⟨rfl,by decide,by decide⟩ (dH _ (by omega))
 have k:gq s=some p.1:=by
  unfold gq
  rw[ay e]
 exact ⟨p.1,k,by rw[<-FZ];exact k,h2,h3⟩
def edOk (e:Int×Int×Int×Int):Prop:=(1<=e.1/\e.1<=99)/\(0<=e.2.1/\e.2.1<=4)/\(0<=e.2.2.1/\e.2.2.1<=4)/\(0<=e.2.2.2/\e.2.2.2<=2)
instance (e:Int×Int×Int×Int):Decidable (edOk e):=inferInstanceAs (Decidable (_/\_))
def tU (e:Int×Int×Int×Int):List UInt8:=Lib.itoa e.1++ [58] ++Lib.itoa e.2.1++ [UInt8.ofNat (97+e.2.2.2.toNat)] ++Lib.itoa e.2.2.1
theorem TL: ∀k:Fin 3,eZ (i64.wrap (2*(k.val:Int)))=some (mkB [UInt8.ofNat (97+k.val)]):=by
 intro k
 match k with
 | ⟨0,_⟩=>rfl
 | ⟨1,_⟩=>rfl
 | ⟨2,_⟩=>rfl
theorem TM: ∀k:Fin 3,sp (⟨#[97,98,99]⟩) (k.val:Int) (i64.wrap ((k.val:Int)+1))=some (mkB [UInt8.ofNat (97+k.val)]):=by
 intro k
 match k with
 | ⟨0,_⟩=>rfl
 | ⟨1,_⟩=>rfl
 | ⟨2,_⟩=>rfl
theorem QB (e:Int×Int×Int×Int):jK e=some (if edOk e then mkB (tU e) else mkB []):=by
 unfold jK
 rw[NA,NA,NA,NA]
 simp only[aa]
 by_cases h:edOk e
 ·obtain ⟨h1,h2,h3,h4⟩:=h
  rw[if_pos (decide_eq_true h1),if_pos (decide_eq_true h2),if_pos (decide_eq_true h3),if_pos (decide_eq_true h4),if_pos ⟨h1,h2,h3,h4⟩]
  have i1:I64 e.1:=by unfold I64;omega
  have i2:I64 e.2.1:=by unfold I64;omega
  have i3:I64 e.2.2.1:=by unfold I64;omega
  have n1:=sk i1
  have n2:=sk i2
  have n3:=sk i3
  obtain ⟨k,hk,ek⟩: ∃k:Nat,k<3/\e.2.2.2=(k:Int):=⟨e.2.2.2.toNat,by omega,by omega⟩
  rw[uI i1,uI i2,uI i3,ek,TL ⟨k,hk⟩]
  simp only[aa]
  have c1:mi (mkB (Lib.itoa e.1)) (⟨#[58]⟩)=some (mkB (Lib.itoa e.1++ [58])):=El _ [58] (by simp;omega)
  rw[c1]
  simp only[aa]
  rw[El _ _ (by simp;omega)]
  simp only[aa]
  rw[El _ _ (by simp;omega)]
  simp only[aa]
  rw[El _ _ (by simp;omega)]
  simp only[aa]
  unfold tU
  rw[ek];rfl
 ·rw[if_neg h]
  split
  ·split
   ·split
    ·split
     ·rename_i a b c d
      exact absurd ⟨of_decide_eq_true a,of_decide_eq_true b,of_decide_eq_true c,of_decide_eq_true d⟩ h
     ·rfl
    ·rfl
   ·rfl
  ·rfl
theorem QC (e:Int×Int×Int×Int):jC e=some (if edOk e then mkB (tU e) else mkB []):=by
 have h5:i64.wrap (5 - 1)=4:=by decide
 have hok:fP (e.1,e.2.1,e.2.2.1,e.2.2.2) 5=some (decide (edOk e)):=by
  unfold fP
  rw[h5,IA,IA,IA,IA]
  simp only[aa]
  by_cases h1:1<=e.1/\e.1<=99
  ·rw[if_pos (decide_eq_true h1)]
   by_cases h2:0<=e.2.1/\e.2.1<=4
   ·rw[if_pos (decide_eq_true h2)]
    by_cases h3:0<=e.2.2.1/\e.2.2.1<=4
    ·rw[if_pos (decide_eq_true h3)]
     congr 1
     exact decide_eq_decide.2 ⟨fun h4=>⟨h1,h2,h3,h4⟩,fun h=>h.2.2.2⟩
    ·rw[if_neg (by simpa using h3),decide_eq_false (fun h:edOk e=>h3 h.2.2.1)]
   ·rw[if_neg (by simpa using h2),decide_eq_false (fun h:edOk e=>h2 h.2.1)]
  ·rw[if_neg (by simpa using h1),decide_eq_false (fun h:edOk e=>h1 h.1)]
 unfold jC
 rw[hok]
 simp only[aa]
 by_cases h:edOk e
 ·rw[if_pos (decide_eq_true h),if_pos h]
  obtain ⟨h1,h2,h3,h4⟩:=h
  have i1:I64 e.1:=by unfold I64;omega
  have i2:I64 e.2.1:=by unfold I64;omega
  have i3:I64 e.2.2.1:=by unfold I64;omega
  have n1:=sk i1
  have n2:=sk i2
  have n3:=sk i3
  obtain ⟨k,hk,ek⟩: ∃k:Nat,k<3/\e.2.2.2=(k:Int):=⟨e.2.2.2.toNat,by omega,by omega⟩
  rw[xC i1,xC i2,xC i3,ek,TM ⟨k,hk⟩]
  simp only[aa]
  have c1:mi (mkB (Lib.itoa e.1)) (⟨#[58]⟩)=some (mkB (Lib.itoa e.1++ [58])):=El _ [58] (by simp;omega)
  rw[c1]
  simp only[aa]
  rw[El _ _ (by simp;omega)]
  simp only[aa]
  rw[El _ _ (by simp;omega)]
  simp only[aa]
  rw[El _ _ (by simp;omega)]
  simp only[aa]
  unfold tU
  rw[ek];rfl
 ·rw[if_neg (by simpa using h),if_neg h];rfl
end D
namespace D
open Go.RowKit
abbrev ChT:Type:=Bool×Int×Int×Int×Int
def p9 (c:ChT):List UInt8:=(if c.1 then 43 else 45)::tU c.2
def btx (l:List ChT):List UInt8:=Lib.join (l.map p9) [32]
def AF (l:List ChT):Prop:= ∀c,c∈l->edOk c.2
theorem uJ {e:Int×Int×Int×Int} (h:edOk e):(tU e).length<=70:=by
 obtain ⟨h1,h2,h3,h4⟩:=h
 have n1:=sk (n:=e.1) (by unfold I64;omega)
 have n2:=sk (n:=e.2.1) (by unfold I64;omega)
 have n3:=sk (n:=e.2.2.1) (by unfold I64;omega)
 unfold tU
 simp only[aw,al,aE];omega
theorem QD (e:Int×Int×Int×Int):(mkB (tU e)==(⟨#[]⟩:ByteArray))=false:=by
 rw[beq_eq_false_iff_ne]
 intro k
 have:=congrArg ByteArray.size k
 rw[bF] at this
 unfold tU at this
 simp only[aw,al,aE] at this
 have e0:(⟨#[]⟩:ByteArray).size=0:=rfl
 omega
theorem QE: ∀(r:List ChT),AF r->(Lib.joinTail [32] (r.map p9)).length<=72*r.length
 | [],_=>by simp[Lib.joinTail]
 | c::r,h=>by
  have h1:=QE r fun q hq=>h q (bj _ hq)
  have h2:=uJ (h c (by simp))
  have e:Lib.joinTail [32] ((c::r).map p9)=([32] ++p9 c)++Lib.joinTail [32] (r.map p9):=by simp[Lib.joinTail]
  rw[e,aw,aw,al]
  unfold p9
  simp only[al,aE]
  unfold p9 at h1
  omega
theorem F5 {l:List ChT} (h:AF l):(btx l).length<=72*l.length:=by
 cases l with
 | nil=>simp[btx,Lib.join_nil]
 | cons c r =>
  have h1:=QE r fun q hq=>h q (bj _ hq)
  have h2:=uJ (h c (by simp))
  unfold btx
  rw[List.map_cons,Lib.join_cons,aw,al]
  have:(p9 c).length=(tU c.2).length+1:=by unfold p9;rw[al]
  omega
theorem TN {l:List ChT} {i:Nat} (hi:i<l.length):btx (l.take (i+1))=if i=0 then p9 l[i] else btx (l.take i)++ [32] ++p9 l[i]:=by
 unfold btx
 rw[List.take_succ_eq_append_getElem hi,aN,List.map_cons,List.map_nil,Qu]
 by_cases h:i=0
 ·subst h;rw[if_pos (by simp),if_pos rfl]
 ·rw[if_neg (by
   intro e
   have:=congrArg List.length e
   rw[List.length_map,aA,aE] at this
   omega),if_neg h]
theorem Im {l:List ChT} {i:Nat} (hi:i<l.length) (h:AF (l.take i)) (k:edOk l[i].2):AF (l.take (i+1)):=by
 rw[List.take_succ_eq_append_getElem hi]
 intro c hc
 rcases aF hc with hc | hc
 ·exact h c hc
 ·obtain rfl:=aq hc;exact k
theorem XB {l:List ChT} (hl:l.length<=6):(AF l/\ax (fe l) aT (([] :List ByteArray),0)=some (.brk (l.map (fun c=>mkB (p9 c)),(l.length:Int))))\/(¬AF l/\ax (fe l) aT (([] :List ByteArray),0)=some (.ret (mkB []))):=by
 obtain ⟨o,e,hQ⟩:=cR (f:=fe l) (fun i s=>s=((l.take i).map (fun c=>mkB (p9 c)),(i:Int))/\AF (l.take i)) (fun o=>(AF l/\o= .brk (l.map (fun c=>mkB (p9 c)),(l.length:Int)))\/(¬AF l/\o= .ret (mkB []))) l.length (fun i s hi hI=>by
  obtain ⟨rfl,hb⟩:=hI
  unfold fe
  simp only[]
  by_cases h1:i<l.length
  ·rw[bI h1,if_pos rfl,aC h1]
   simp only[aa]
   rw[QC]
   simp only[aa]
   by_cases k:edOk l[i].2
   ·have n1:=uJ k
    have c1:mi (⟨#[43]⟩) (mkB (tU l[i].2))=some (mkB (43::tU l[i].2)):=El [43] _ (by simp;omega)
    have c2:mi (⟨#[45]⟩) (mkB (tU l[i].2))=some (mkB (45::tU l[i].2)):=El [45] _ (by simp;omega)
    have hx: ∀z:ByteArray,cn 16 ((l.take i).map (fun c=>mkB (p9 c))) [z] =some ((l.take i).map (fun c=>mkB (p9 c))++ [z]):=fun z=>aK (by rw[List.length_map,aA];simp only[al,aE];omega)
    refine .inl ⟨h1,((l.take (i+1)).map (fun c=>mkB (p9 c)),((i+1:Nat):Int)),?_,rfl,Im h1 hb k⟩
    rw[if_pos k,if_neg (by rw[QD];decide),c1,c2]
    simp only[aa]
    rw[hx,hx,List.take_succ_eq_append_getElem h1,aN,List.map_cons,List.map_nil,<-af (show i<9223372036854775807 by omega)]
    have ec:p9 l[i] =(if l[i].1=true then 43 else 45)::tU l[i].2:=rfl
    rw[ec]
    generalize l[i].1=t
    cases t <;> rfl
   ·refine .inr ⟨.ret (mkB []),?_,fun s' h=>(by simp at h),.inr ⟨fun h=>k (h _ (List.getElem_mem h1)),rfl⟩⟩
    rw[if_neg k];rfl
  ·obtain rfl:i=l.length:=by omega
   rw[List.take_length] at hb
   refine .inr ⟨_,by rw[bg];rfl,fun s' h=>(by simp at h),.inl ⟨hb,by rw[List.take_length]⟩⟩) (s:=([],0)) ⟨rfl,fun c hc=>by simp at hc⟩ (dH _ (by omega))
 rcases hQ with ⟨h,rfl⟩ | ⟨h,rfl⟩
 ·exact .inl ⟨h,e⟩
 ·exact .inr ⟨h,e⟩
theorem XC {l:List ChT} (hl:l.length<=6):(AF l/\ax (fh l) aT ((⟨#[]⟩:ByteArray),0)=some (.brk (mkB (btx l),(l.length:Int))))\/(¬AF l/\ax (fh l) aT ((⟨#[]⟩:ByteArray),0)=some (.ret (mkB []))):=by
 obtain ⟨o,e,hQ⟩:=cR (f:=fh l) (fun i s=>s=(mkB (btx (l.take i)),(i:Int))/\AF (l.take i)) (fun o=>(AF l/\o= .brk (mkB (btx l),(l.length:Int)))\/(¬AF l/\o= .ret (mkB []))) l.length (fun i s hi hI=>by
  obtain ⟨rfl,hb⟩:=hI
  have hn:=F5 hb
  rw[aA] at hn
  unfold fh
  simp only[]
  by_cases h1:i<l.length
  ·rw[bI h1,if_pos rfl,aC h1]
   simp only[aa]
   rw[QB]
   simp only[aa]
   by_cases k:edOk l[i].2
   ·have n1:=uJ k
    refine .inl ⟨h1,(mkB (btx (l.take (i+1))),((i+1:Nat):Int)),?_,rfl,Im h1 hb k⟩
    rw[if_pos k,if_neg (by rw[QD];decide),TN h1,<-af (show i<9223372036854775807 by omega)]
    have ec:p9 l[i] =(if l[i].1=true then 43 else 45)::tU l[i].2:=rfl
    rw[ec]
    generalize l[i].1=t
    have g1: ∀(a:List UInt8) (b:UInt8),a.length<=1000->mi (mkB a) (mkB [b])=some (mkB (a++ [b])):=fun a b ha=>El _ _ (by simp;omega)
    have g2: ∀(a:List UInt8) (b:UInt8),a.length<=1000->mi (mkB (a++ [b])) (mkB (tU l[i].2))=some (mkB (a++b::tU l[i].2)):=fun a b ha=>by
     rw[El _ _ (by simp;omega),ai];rfl
    by_cases h0:i=0
    ·subst h0
     have eb:btx (l.take 0)= []:=rfl
     have q1:=g1 [] 43 (by simp)
     have q2:=g1 [] 45 (by simp)
     have q3:=g2 [] 43 (by simp)
     have q4:=g2 [] 45 (by simp)
     have l1:(⟨#[43]⟩:ByteArray)=mkB [43]:=rfl
     have l2:(⟨#[45]⟩:ByteArray)=mkB [45]:=rfl
     rw[eb,if_pos rfl,if_neg (by simp)]
     simp only[aa]
     rw[l1,l2,q1,q2]
     simp only[aa]
     rw[q3,q4]
     cases t <;> rfl
    ·have hs:=g1 (btx (l.take i)) 32 (by omega)
     have q1:=g1 (btx (l.take i)++ [32]) 43 (by simp;omega)
     have q2:=g1 (btx (l.take i)++ [32]) 45 (by simp;omega)
     have q3:=g2 (btx (l.take i)++ [32]) 43 (by simp;omega)
     have q4:=g2 (btx (l.take i)++ [32]) 45 (by simp;omega)
     have l1:(⟨#[43]⟩:ByteArray)=mkB [43]:=rfl
     have l2:(⟨#[45]⟩:ByteArray)=mkB [45]:=rfl
     have l3:(⟨#[32]⟩:ByteArray)=mkB [32]:=rfl
     rw[if_neg h0,if_pos (decide_eq_true (by omega)),l1,l2,l3,hs]
     simp only[aa]
     rw[q1,q2]
     simp only[aa]
     rw[q3,q4]
     cases t <;> rfl
   ·refine .inr ⟨.ret (mkB []),?_,fun s' h=>(by simp at h),.inr ⟨fun h=>k (h _ (List.getElem_mem h1)),rfl⟩⟩
    rw[if_neg k];rfl
  ·obtain rfl:i=l.length:=by omega
   rw[List.take_length] at hb
   refine .inr ⟨_,by rw[bg];rfl,fun s' h=>(by simp at h),.inl ⟨hb,by rw[List.take_length]⟩⟩) (s:=((⟨#[]⟩:ByteArray),0)) ⟨rfl,fun c hc=>by simp at hc⟩ (dH _ (by omega))
 rcases hQ with ⟨h,rfl⟩ | ⟨h,rfl⟩
 ·exact .inl ⟨h,e⟩
 ·exact .inr ⟨h,e⟩
open Classical in
theorem uK (l:List ChT):c8 l=some (if l.length<=6/\AF l then mkB (btx l) else mkB [])/\eE l=some (if l.length<=6/\AF l then mkB (btx l) else mkB []):=by
 unfold c8 eE
 by_cases h6:l.length<=6
 ·have hd: ¬decide ((l.length:Int)>6)=true:=by rw[decide_eq_true_eq];omega
  constructor
  ·rw[if_neg hd]
   rcases XC h6 with ⟨h,e⟩ | ⟨h,e⟩
   ·rw[ay e,if_pos ⟨h6,h⟩]
   ·rw[cr e,if_neg fun k=>h k.2]
  ·rw[if_neg hd]
   rcases XB h6 with ⟨h,e⟩ | ⟨h,e⟩
   ·have hn:=F5 h
    rw[ay e,if_pos ⟨h6,h⟩]
    show (jQ (l.map fun p=>mkB (p9 p)) (mkB [32])).bind _=_
    unfold jQ R.Tg chk
    have e:(l.map fun p=>mkB (p9 p)).map (·.data.toList)=l.map p9:=by
     rw[List.map_map]
     exact List.map_congr_left fun p _=>fp _
    rw[e,fp,List.length_map,if_pos ⟨by omega,by show (btx l).length<=_;omega⟩];rfl
   ·rw[cr e,if_neg fun k=>h k.2]
 ·have hd:decide ((l.length:Int)>6)=true:=decide_eq_true (by omega)
  constructor
  ·rw[if_pos hd,if_neg fun k=>h6 k.1];rfl
  ·rw[if_pos hd,if_neg fun k=>h6 k.1];rfl
end D
namespace D
open Go.RowKit
theorem Cx (v:Int) (l:List ChT): ∃r:ByteArray,dL v l=some r/\eX v l=some r/\r.size<=1000:=by
 obtain ⟨es,ei⟩:=uK l
 obtain ⟨t,et,hn⟩: ∃t:List UInt8,(c8 l=some (mkB t)/\eE l=some (mkB t))/\t.length<=432:=by
  by_cases h:l.length<=6/\AF l
  ·have:=F5 h.2
   refine ⟨btx l,⟨?_,?_⟩,by omega⟩
   ·rw[es,if_pos h]
   ·rw[ei,if_pos h]
  ·refine ⟨[],⟨?_,?_⟩,by simp⟩
   ·rw[es,if_neg h]
   ·rw[ei,if_neg h]
 obtain ⟨e1,e2⟩:=et
 unfold dL eX
 rw[e1,e2,NA,IA]
 simp only[aa]
 by_cases hv:1<=v/\v<=999
 ·have iv:I64 v:=by unfold I64;omega
  have nv:=sk iv
  have c1:mi (mkB (Lib.itoa v)) (⟨#[59]⟩)=some (mkB (Lib.itoa v++ [59])):=El _ [59] (by simp;omega)
  have c2:mi (mkB (Lib.itoa v++ [59])) (mkB t)=some (mkB (Lib.itoa v++ [59] ++t)):=El _ _ (by simp;omega)
  have c3:mi (mkB (Lib.itoa v++ [59] ++t)) (⟨#[59]⟩)=some (mkB (Lib.itoa v++ [59] ++t++ [59])):=El _ [59] (by simp;omega)
  obtain ⟨q,k1,k2,q1,q2⟩:=Il (mkB (Lib.itoa v++ [59] ++t++ [59])) (by rw[bF];simp;omega)
  have iq:I64 q:=by unfold I64;omega
  have nq:=sk iq
  have c4:mi (mkB (Lib.itoa v++ [59] ++t++ [59])) (mkB (Lib.itoa q))=some (mkB (Lib.itoa v++ [59] ++t++ [59] ++Lib.itoa q)):=El _ _ (by simp;omega)
  have c5:mi (mkB (Lib.itoa v++ [59] ++t++ [59] ++Lib.itoa q)) (⟨#[10]⟩)=some (mkB (Lib.itoa v++ [59] ++t++ [59] ++Lib.itoa q++ [10])):=El _ [10] (by simp;omega)
  have hs:(mkB (Lib.itoa v++ [59] ++t++ [59] ++Lib.itoa q++ [10])).size<=1000:=by rw[bF];simp;omega
  have h0:((⟨#[]⟩:ByteArray)).size<=1000:=by decide
  rw[decide_eq_true hv]
  simp only[if_true,uI iv,xC iv,uI iq,xC iq,c1,c2,c3,k1,k2,c4,c5,aa]
  by_cases a:decide ((l.length:Int)>0)=true
  ·by_cases b:(mkB t==(⟨#[]⟩:ByteArray))=true
   ·simp only[if_pos a,if_pos b];exact ⟨_,rfl,rfl,h0⟩
   ·simp only[if_pos a,if_neg b];exact ⟨_,rfl,rfl,hs⟩
  ·by_cases b:(mkB t==(⟨#[]⟩:ByteArray))=true
   ·simp only[if_neg a,if_pos b];exact ⟨_,rfl,rfl,hs⟩
   ·simp only[if_neg a,if_neg b];exact ⟨_,rfl,rfl,hs⟩
 ·rw[decide_eq_false hv]
  exact ⟨_,rfl,rfl,by decide⟩
end D
namespace D
open Go.RowKit
def qa (c:UInt8) (cur:List UInt8):List UInt8->List (List UInt8)
 | [] =>[cur]
 | b::l=>if b=c then cur::qa c [] l else qa c (cur++ [b]) l
theorem pd {c:UInt8} : ∀ {l cur:List UInt8},c∉l->qa c cur l= [cur++l]
 | [],cur,_=>by simp[qa]
 | b::l,cur,h=>by
  have hb:b≠c:=fun e=>h (by simp[e])
  rw[qa,if_neg hb,pd fun k=>h (bj _ k)]
  simp
theorem rF {c:UInt8} : ∀ {a cur r:List UInt8},c∉a->qa c cur (a++c::r)=(cur++a)::qa c [] r
 | [],cur,r,_=>by simp[qa]
 | b::a,cur,r,h=>by
  have hb:b≠c:=fun e=>h (by simp[e])
  rw[List.cons_append,qa,if_neg hb,rF fun k=>h (bj _ k)]
  simp
theorem F6 (c:UInt8): ∀(l cur:List UInt8),(qa c cur l).length<=l.length+1
 | [],cur=>by simp[qa]
 | b::l,cur=>by
  rw[qa]
  split
  ·have:=F6 c l [];simp only[al];omega
  ·have:=F6 c l (cur++ [b]);simp only[al];omega
theorem tV (c:UInt8): ∀(l cur:List UInt8),∀x∈qa c cur l,x.length<=cur.length+l.length
 | [],cur,x,h=>by simp[qa] at h;subst h;simp
 | b::l,cur,x,h=>by
  rw[qa] at h
  split at h
  ·rcases aB h with rfl | h
   ·simp
   ·have:=tV c l [] x h;simp at this;simp;omega
  ·have:=tV c l _ x h;simp at this;simp;omega
theorem uL (c:UInt8) (l:List UInt8):c∉l\/ ∃a r,l=a++c::r/\c∉a:=by
 by_cases h:c∈l
 ·obtain ⟨a,r,e,k⟩:=List.eq_append_cons_of_mem h
  exact .inr ⟨a,r,e,k⟩
 ·exact .inl h
theorem F7 (s:ByteArray):mkB s.data.toList=s:=by simp[mkB]
theorem QF (s:ByteArray): ∃l:List UInt8,s=mkB l:=⟨_,(F7 s).symm⟩
theorem yP {a b:List UInt8} (h:mkB a=mkB b):a=b:=by rw[<-fp a,h,fp]
theorem slB {l:List UInt8} {a b:Nat} (h1:a<=b) (h2:b<=l.length):sp (mkB l) (a:Int) (b:Int)=some (mkB ((l.take b).drop a)):=by
 unfold sp chk
 rw[bF,if_pos ⟨by omega,by omega,by omega⟩,aa]
 congr 1
 refine ByteArray.ext ?_
 simp[mkB,List.drop_take]
theorem atB {l:List UInt8} {i:Nat} (h:i<l.length):kp (mkB l) (i:Int)=some ((l[i].toNat:Nat):Int):=by
 rw[AE (by rw[bF];exact h)]
 simp[mkB]
theorem xD (l:List UInt8) (c:UInt8) (hl:l.length<=1000000):iS (mkB l) ((c.toNat:Nat):Int)=some ((qa c [] l).map mkB):=by
 obtain ⟨s,e,fr,done,rfl,h1,h2,h3⟩:=pa (f:=pD (mkB l) ((c.toNat:Nat):Int)) (fun i s=> ∃(fr:Nat) (done:List (List UInt8)),s=(done.map mkB,(fr:Int),(i:Int))/\fr<=i/\done.length<=i/\done++qa c ((l.take i).drop fr) (l.drop i)=qa c [] l) l.length (fun i s hi hI=>by
  obtain ⟨fr,done,rfl,h1,h2,h3⟩:=hI
  unfold pD
  simp only[]
  rw[if_pos (decide_eq_true (by rw[bF];omega)),atB hi]
  simp only[aa]
  rw[List.drop_eq_getElem_cons hi,qa] at h3
  by_cases k:l[i] =c
  ·rw[if_pos k] at h3
   rw[if_pos (by rw[k];simp),slB h1 (by omega)]
   simp only[aa]
   have hx:cn 16 (done.map mkB) [mkB ((l.take i).drop fr)] =some (done.map mkB++ [mkB ((l.take i).drop fr)]):=aK (by rw[List.length_map];simp only[al,aE];omega)
   rw[hx]
   simp only[aa]
   refine ⟨_,rfl,i+1,done++ [(l.take i).drop fr],?_,aD _,by simp;omega,?_⟩
   ·rw[aN,List.map_cons,List.map_nil,af (by omega)]
   ·rw[<-h3,ai,List.drop_of_length_le (l:=l.take (i+1)) (by rw[aA];omega)];rfl
  ·rw[if_neg k] at h3
   rw[if_neg (fun e=>k (UInt8.toNat_inj.1 (by have:=eq_of_beq e;omega)))]
   simp only[aa]
   refine ⟨_,rfl,fr,done,?_,by omega,by omega,?_⟩
   ·rw[af (by omega)]
   ·rw[<-h3,List.take_succ_eq_append_getElem hi,List.drop_append_of_le_length (by rw[aA];omega)]) (fun s hI=>by
  obtain ⟨fr,done,rfl,h1,h2,h3⟩:=hI
  unfold pD
  simp only[]
  rw[if_neg (by rw[bF];simp)]) (s:=(([] :List ByteArray),0,0)) ⟨0,[],rfl,aD _,aD _,by simp⟩ (dH _ (by omega))
 unfold iS
 rw[ay e,bF]
 simp only[]
 rw[slB h1 (aD _)]
 simp only[aa]
 have hx:cn 16 (done.map mkB) [mkB ((l.take l.length).drop fr)] =some (done.map mkB++ [mkB ((l.take l.length).drop fr)]):=aK (by rw[List.length_map];simp only[al,aE];omega)
 rw[hx,<-h3,List.drop_length,qa]
 simp
theorem F8 {c:UInt8} : ∀ {l:List UInt8},c∉l->Lib.index l [c] = -1
 | [],_=>rfl
 | b::l,h=>by
  have hb:c≠b:=fun e=>h (by simp[e])
  have k:([c] :List UInt8).isPrefixOf (b::l)=false:=by simp[List.isPrefixOf,hb]
  rw[Lib.index,k,F8 fun k=>h (bj _ k)];rfl
theorem F9 {c:UInt8} : ∀ {a r:List UInt8},c∉a->Lib.index (a++c::r) [c] =(a.length:Int)
 | [],r,_=>by simp[Lib.index,List.isPrefixOf]
 | b::a,r,h=>by
  have hb:c≠b:=fun e=>h (by simp[e])
  have k:([c] :List UInt8).isPrefixOf (b::(a++c::r))=false:=by simp[List.isPrefixOf,hb]
  rw[List.cons_append,Lib.index,k,F9 fun k=>h (bj _ k)]
  rw[if_neg (by decide),if_neg (by rw[beq_iff_eq];omega),al];omega
theorem Io (c:UInt8): ∀(n:Nat) (l:List UInt8),l.length<=n->Lib.splitK [c] 0 (Lib.count l [c]) l=qa c [] l
 | n,l,h=>by
  rcases uL c l with k | ⟨a,r,rfl,k⟩
  ·have e:=F8 k
   rw[Lib.count_miss e,pd k];rfl
  ·have e:=F9 (r:=r) k
   have hd:(a++c::r).drop (a.length+1)=r:=by
    rw[<-List.drop_drop,List.drop_left];rfl
   rw[Lib.count_hit (by simp) e,rF k,Nat.add_comm 1,Lib.splitK,e,if_neg (by rw[beq_iff_eq];omega)]
   show List.take (a.length+0) _::Lib.splitK [c] 0 (Lib.count ((a++c::r).drop (a.length+1)) [c]) ((a++c::r).drop (a.length+1))=_
   rw[hd,Nat.add_zero,List.take_left]
   cases n with
   | zero=>simp at h
   | succ n=>rw[Io c n r (by simp at h;omega)];rfl
theorem Gc (l:List UInt8) (c:UInt8) (hl:l.length<=1000000):cO (mkB l) (mkB [c])=some ((qa c [] l).map mkB):=by
 unfold cO R.Lr chk
 rw[bF,bF,if_pos ⟨by omega,by simp⟩,aa]
 congr 1
 have e:=Lib.splitB_data (mkB [c]) 0 (Lib.countB (mkB l) (mkB [c])) (mkB l)
 rw[fp,fp] at e
 have e2:Lib.countB (mkB l) (mkB [c])=Lib.count l [c]:=by unfold Lib.countB;rw[fp,fp]
 rw[e2,Io c l.length l (aD _)] at e
 rw[e2,<-e,List.map_map]
 conv=>lhs;rw[<-List.map_id (Lib.splitB _ _ _ _)]
 exact List.map_congr_left fun x _=>(F7 x).symm
theorem TO {l:List UInt8} {c:UInt8} (hl:l.length<=1000000) (h:c∉l):cY (mkB l) (mkB [c])=some (mkB l,mkB [],false):=by
 unfold cY R.Y5 chk
 rw[bF,if_pos (by omega),aa,fp,fp]
 have:Lib.cut l [c] =(l,[],false):=by unfold Lib.cut;rw[F8 h,if_neg (by decide)]
 rw[this];rfl
theorem Vd {a r:List UInt8} {c:UInt8} (hl:(a++c::r).length<=1000000) (h:c∉a):cY (mkB (a++c::r)) (mkB [c])=some (mkB a,mkB r,true):=by
 unfold cY R.Y5 chk
 rw[bF,if_pos (by omega),aa,fp,fp]
 have:Lib.cut (a++c::r) [c] =(a,r,true):=by
  unfold Lib.cut
  rw[F9 h,if_pos (by omega)]
  have hd:(a++c::r).drop (a.length+1)=r:=by
   rw[<-List.drop_drop,List.drop_left];rfl
  show (List.take a.length _,List.drop (a.length+1) _,true)=_
  rw[List.take_left,hd]
 rw[this];rfl
theorem LC {c:UInt8} : ∀ {l:List UInt8},c∉l->Lib.indexByte l c= -1
 | [],_=>rfl
 | b::l,h=>by
  have hb:b≠c:=fun e=>h (by simp[e])
  rw[Lib.indexByte,if_neg (by simpa using hb),LC fun k=>h (bj _ k)];rfl
theorem Ve {c:UInt8} : ∀ {a r:List UInt8},c∉a->Lib.indexByte (a++c::r) c=(a.length:Int)
 | [],r,_=>by simp[Lib.indexByte]
 | b::a,r,h=>by
  have hb:b≠c:=fun e=>h (by simp[e])
  rw[List.cons_append,Lib.indexByte,if_neg (by simpa using hb),Ve fun k=>h (bj _ k),if_neg (by rw[beq_iff_eq];omega),al];omega
end D
namespace D
open Go.RowKit
theorem aaP {α:Type} {l:List α} (h:l.length=3): ∃a b c,l= [a,b,c]:=by
 match l,h with
 | [a,b,c],_=>exact ⟨a,b,c,rfl⟩
abbrev EgT:Type:=Int×Int×Int×Int
theorem TP (c:UInt8) (cur l:List UInt8):1<=(qa c cur l).length:=by
 rcases uL c l with k | ⟨a,r,rfl,k⟩
 ·rw[pd k];simp
 ·rw[rF k];simp
theorem Ip (u:Nat): ∀b∈Lib.decDigits u,48<=b.toNat/\b.toNat<=57:=by
 induction u using Nat.strongRecOn with
 | _ u ih =>
  intro b hb
  have k: ∀d,d<10->48<=(UInt8.ofNat (48+d)).toNat/\(UInt8.ofNat (48+d)).toNat<=57:=fun d hd=>by
   have e:(UInt8.ofNat (48+d)).toNat=48+d:=by simp;omega
   omega
  by_cases h:u<10
  ·rw[Lib.decDigits_one h] at hb
   obtain rfl:=aq hb
   exact k u h
  ·rw[AD h] at hb
   rcases aF hb with hb | hb
   ·exact ih (u / 10) (by omega) b hb
   ·obtain rfl:=aq hb
    exact k _ (Nat.mod_lt _ (by omega))
theorem TQ (n:Int): ∀b∈Lib.itoa n,b.toNat=45\/48<=b.toNat/\b.toNat<=57:=by
 intro b hb
 unfold Lib.itoa at hb
 split at hb
 ·rcases aB hb with rfl | hb
  ·exact .inl rfl
  ·exact .inr (Ip _ b hb)
 ·exact .inr (Ip _ b hb)
theorem Vf {n:Int} {c:UInt8} (h1:c.toNat≠45) (h2:c.toNat<48\/57<c.toNat):c∉Lib.itoa n:=fun h=>by
 rcases TQ n c h with k | k <;> omega
theorem Vg {n:Int} (h:0<=n/\n<=9):Lib.itoa n= [UInt8.ofNat (48+n.toNat)]:=by
 unfold Lib.itoa
 rw[if_neg (by omega),Lib.decDigits_one (by omega)]
theorem JY {e:EgT} (h:edOk e):tU e=Lib.itoa e.1++58:: [UInt8.ofNat (48+e.2.1.toNat),UInt8.ofNat (97+e.2.2.2.toNat),UInt8.ofNat (48+e.2.2.1.toNat)]:=by
 obtain ⟨-,h2,h3,-⟩:=h
 unfold tU
 rw[Vg (n:=e.2.1) (by omega),Vg (n:=e.2.2.1) (by omega)]
 simp
theorem Zg: ∀k:Fin 9,∃x,eZ (k.val:Int)=some x:=by
 intro k
 match k with
 | ⟨0,_⟩=>exact ⟨_,rfl⟩
 | ⟨1,_⟩=>exact ⟨_,rfl⟩
 | ⟨2,_⟩=>exact ⟨_,rfl⟩
 | ⟨3,_⟩=>exact ⟨_,rfl⟩
 | ⟨4,_⟩=>exact ⟨_,rfl⟩
 | ⟨5,_⟩=>exact ⟨_,rfl⟩
 | ⟨6,_⟩=>exact ⟨_,rfl⟩
 | ⟨7,_⟩=>exact ⟨_,rfl⟩
 | ⟨8,_⟩=>exact ⟨_,rfl⟩
theorem Nf (z:ByteArray): ∃r,gb z=some r:=by
 obtain ⟨o,e,h⟩:=cR (f:=lh z) (fun i s=>s=(i:Int)) (fun o=> ∀s,o≠ .nxt s) 9 (fun i s hi hI=>by
  subst hI
  unfold lh
  by_cases h1:i<9
  ·obtain ⟨x,ex⟩:=Zg ⟨i,h1⟩
   have ex:eZ (i:Int)=some x:=ex
   rw[if_pos (decide_eq_true (by omega)),ex]
   simp only[aa]
   by_cases c:(x==z)=true
   ·rw[if_pos c];exact .inr ⟨_,rfl,fun s' h=>(by simp at h),fun s' h=>(by simp at h)⟩
   ·rw[if_neg c];exact .inl ⟨h1,_,rfl,af (by omega)⟩
  ·obtain rfl:i=9:=by omega
   rw[if_neg (by decide)];exact .inr ⟨_,rfl,fun s' h=>(by simp at h),fun s' h=>(by simp at h)⟩) (s:=(0:Int)) rfl (dH _ (by omega))
 unfold gb
 rw[e]
 cases o with
 | nxt s=>exact absurd rfl (h s)
 | brk s=>exact ⟨_,rfl⟩
 | ret r=>exact ⟨_,rfl⟩
theorem QG: ∀k:Fin 3,gb (mkB [UInt8.ofNat (97+k.val)])=some (2*(k.val:Int),true):=by
 intro k
 have hf:=dH 100 (by omega)
 obtain ⟨n,hn⟩: ∃n,aT=n+6:=⟨aT - 6,by omega⟩
 unfold gb
 rw[hn]
 match k with
 | ⟨0,_⟩=>rfl
 | ⟨1,_⟩=>rfl
 | ⟨2,_⟩=>rfl
theorem abF: ∀d:Fin 5,i64.wrap ((i64.wrap (((UInt8.ofNat (48+d.val)).toNat:Nat):Int)) - 48)=(d.val:Int):=by decide
theorem abU: ∀d:Fin 3,i64.wrap ((i64.wrap (((UInt8.ofNat (97+d.val)).toNat:Nat):Int)) - 97)=(d.val:Int):=by decide
theorem abV: ∀d:Fin 3,Rr (2*(d.val:Int)) 2=(d.val:Int):=by decide
def aaa (s:List UInt8) (r:EgT×Bool):Prop:=r=((0,0,0,0),false)\/r.2=true/\edOk r.1/\s=tU r.1
theorem Vh {e:EgT} {s:List UInt8} (h:s≠ []): ∃r:EgT×Bool,(if (if edOk e then mkB (tU e) else mkB []) !=mkB s then (some ((0,0,0,0),false)) else (some (e,true)):Option (EgT×Bool))=some r/\aaa s r:=by
 by_cases k:edOk e
 ·rw[if_pos k]
  by_cases c:mkB (tU e)=mkB s
  ·rw[if_neg (by simp[c])];exact ⟨_,rfl,.inr ⟨rfl,k,(yP c).symm⟩⟩
  ·rw[if_pos (by simpa using c)];exact ⟨_,rfl,.inl rfl⟩
 ·rw[if_neg k,if_pos (by
   rw[bne_iff_ne]
   exact fun c=>h (yP c).symm)]
  exact ⟨_,rfl,.inl rfl⟩
theorem abW (l:List UInt8) (hl:l.length<=1000000): ∃r,gH (mkB l)=some r/\aaa l r:=by
 unfold gH
 have ec:iS (mkB l) 58=some ((qa 58 [] l).map mkB):=xD l 58 hl
 rw[ec];simp only[aa]
 rcases uL 58 l with k | ⟨a,r,rfl,k⟩
 ·rw[pd k];exact ⟨_,rfl,.inl rfl⟩
 ·rw[rF k]
  rcases uL 58 r with k2 | ⟨b,q,rfl,k2⟩
  ·rw[pd k2]
   simp only[List.nil_append,List.map_cons,List.map_nil]
   have g0:aQ [mkB a,mkB r] 0=some (mkB a):=rfl
   have g1:aQ [mkB a,mkB r] 1=some (mkB r):=rfl
   rw[if_neg (by simp)]
   simp only[g0,g1,aa,bF]
   by_cases h3:r.length=3
   ·obtain ⟨x,y,z,rfl⟩:=aaP h3
    obtain ⟨n,en,-,-⟩:=rE (mkB a)
    obtain ⟨t,et⟩:=Nf (mkB [y])
    have s1:sp (mkB [x,y,z]) 1 2=some (mkB [y]):=slB (l:=[x,y,z]) (a:=1) (b:=2) (by decide) (by simp)
    have a0:kp (mkB [x,y,z]) 0=some ((x.toNat:Nat):Int):=atB (l:=[x,y,z]) (i:=0) (by simp)
    have a2:kp (mkB [x,y,z]) 2=some ((z.toNat:Nat):Int):=atB (l:=[x,y,z]) (i:=2) (by simp)
    rw[if_neg (by simp),en,s1]
    simp only[aa]
    rw[et,a0,a2]
    simp only[aa]
    rw[QB]
    simp only[aa]
    exact Vh (by simp)
   ·rw[if_pos (by rw[bne_iff_ne];omega)];exact ⟨_,rfl,.inl rfl⟩
  ·rw[rF k2]
   have:=TP 58 [] q
   rw[if_pos (by rw[bne_iff_ne];simp only[List.length_map,al];omega)]
   exact ⟨_,rfl,.inl rfl⟩
theorem abX (l:List UInt8) (hl:l.length<=1000000): ∃r,gD (mkB l)=some r/\aaa l r:=by
 unfold gD
 rcases uL 58 l with k | ⟨a,r,rfl,k⟩
 ·have ec:cY (mkB l) (⟨#[58]⟩)=some (mkB l,mkB [],false):=TO hl k
  rw[ec];exact ⟨_,rfl,.inl rfl⟩
 ·have ec:cY (mkB (a++58::r)) (⟨#[58]⟩)=some (mkB a,mkB r,true):=Vd hl k
  rw[ec]
  simp only[aa,bF]
  by_cases h3:r.length=3
  ·obtain ⟨x,y,z,rfl⟩:=aaP h3
   obtain ⟨n,-,en,-⟩:=rE (mkB a)
   have a0:kp (mkB [x,y,z]) 0=some ((x.toNat:Nat):Int):=atB (l:=[x,y,z]) (i:=0) (by simp)
   have a1:kp (mkB [x,y,z]) 1=some ((y.toNat:Nat):Int):=atB (l:=[x,y,z]) (i:=1) (by simp)
   have a2:kp (mkB [x,y,z]) 2=some ((z.toNat:Nat):Int):=atB (l:=[x,y,z]) (i:=2) (by simp)
   rw[if_neg (by simp),en,a0,a1,a2]
   simp only[aa]
   rw[QC]
   simp only[aa]
   exact Vh (by simp)
  ·rw[if_pos (by rw[bne_iff_ne];omega)];exact ⟨_,rfl,.inl rfl⟩
theorem XD {e:EgT} (h:edOk e):gH (mkB (tU e))=some (e,true)/\gD (mkB (tU e))=some (e,true):=by
 have hn:=uJ h
 have he:=JY h
 have hl:(tU e).length<=1000000:=by omega
 obtain ⟨h1,h2,h3,h4⟩:=id h
 obtain ⟨p1,p2⟩:=FY (n:=e.1) (by omega)
 have k:(58:UInt8)∉Lib.itoa e.1:=Vf (by decide) (by decide)
 obtain ⟨f,hf,ef⟩: ∃k:Nat,k<5/\e.2.1=(k:Int):=⟨e.2.1.toNat,by omega,by omega⟩
 obtain ⟨t,ht,et⟩: ∃k:Nat,k<5/\e.2.2.1=(k:Int):=⟨e.2.2.1.toNat,by omega,by omega⟩
 obtain ⟨q,hq,eq⟩: ∃k:Nat,k<3/\e.2.2.2=(k:Int):=⟨e.2.2.2.toNat,by omega,by omega⟩
 have hx:tU e=Lib.itoa e.1++58:: [UInt8.ofNat (48+f),UInt8.ofNat (97+q),UInt8.ofNat (48+t)]:=by
  rw[he,ef,et,eq];rfl
 have k2:(58:UInt8) ∉ [UInt8.ofNat (48+f),UInt8.ofNat (97+q),UInt8.ofNat (48+t)]:=by
  have e1:(UInt8.ofNat (48+f)).toNat=48+f:=by simp;omega
  have e2:(UInt8.ofNat (97+q)).toNat=97+q:=by simp;omega
  have e3:(UInt8.ofNat (48+t)).toNat=48+t:=by simp;omega
  have e4:(58:UInt8).toNat=58:=rfl
  intro hm
  simp only[List.mem_cons,List.not_mem_nil,or_false] at hm
  rcases hm with hm | hm | hm <;> (have:=congrArg UInt8.toNat hm;omega)
 have a0:kp (mkB [UInt8.ofNat (48+f),UInt8.ofNat (97+q),UInt8.ofNat (48+t)]) 0=some (((UInt8.ofNat (48+f)).toNat:Nat):Int):=atB (l:=[UInt8.ofNat (48+f),UInt8.ofNat (97+q),UInt8.ofNat (48+t)]) (i:=0) (by simp)
 have a1:kp (mkB [UInt8.ofNat (48+f),UInt8.ofNat (97+q),UInt8.ofNat (48+t)]) 1=some (((UInt8.ofNat (97+q)).toNat:Nat):Int):=atB (l:=[UInt8.ofNat (48+f),UInt8.ofNat (97+q),UInt8.ofNat (48+t)]) (i:=1) (by simp)
 have a2:kp (mkB [UInt8.ofNat (48+f),UInt8.ofNat (97+q),UInt8.ofNat (48+t)]) 2=some (((UInt8.ofNat (48+t)).toNat:Nat):Int):=atB (l:=[UInt8.ofNat (48+f),UInt8.ofNat (97+q),UInt8.ofNat (48+t)]) (i:=2) (by simp)
 have s1:sp (mkB [UInt8.ofNat (48+f),UInt8.ofNat (97+q),UInt8.ofNat (48+t)]) 1 2=some (mkB [UInt8.ofNat (97+q)]):=slB (l:=[UInt8.ofNat (48+f),UInt8.ofNat (97+q),UInt8.ofNat (48+t)]) (a:=1) (b:=2) (by decide) (by simp)
 have v1:=abF ⟨f,hf⟩
 have v2:=abF ⟨t,ht⟩
 have v3:=abU ⟨q,hq⟩
 have v4:=abV ⟨q,hq⟩
 have v5:=QG ⟨q,hq⟩
 simp only at v1 v2 v3 v4 v5
 have ee:(e.1,(f:Int),(t:Int),(q:Int))=e:=by rw[<-ef,<-et,<-eq]
 constructor
 ·unfold gH
  have ec:iS (mkB (tU e)) 58=some ((qa 58 [] (tU e)).map mkB):=xD _ 58 hl
  rw[ec];simp only[aa]
  rw[hx,rF k,pd k2]
  simp only[List.nil_append,List.map_cons,List.map_nil]
  rw[if_neg (by simp)]
  have g0: ∀a b:ByteArray,aQ [a,b] 0=some a:=fun a b=>rfl
  have g1: ∀a b:ByteArray,aQ [a,b] 1=some b:=fun a b=>rfl
  simp only[g0,g1,aa,bF]
  rw[if_neg (by simp),p1,s1]
  simp only[aa]
  rw[v5,a0,a2]
  simp only[aa]
  rw[v1,v2,v4,ee,QB,if_pos h,<-hx]
  simp
 ·unfold gD
  have ec:cY (mkB (tU e)) (⟨#[58]⟩)=some (mkB (Lib.itoa e.1),mkB [UInt8.ofNat (48+f),UInt8.ofNat (97+q),UInt8.ofNat (48+t)],true):=by
   rw[hx] at hl⊢
   exact Vd hl k
  rw[ec]
  simp only[aa,bF]
  rw[if_neg (by simp),p2,a0,a1,a2]
  simp only[aa]
  rw[v1,v2,v3,ee,QC,if_pos h]
  simp
theorem QH (l:List UInt8) (hl:l.length<=1000000): ∃r,gH (mkB l)=some r/\gD (mkB l)=some r/\aaa l r:=by
 by_cases h: ∃e:EgT,edOk e/\l=tU e
 ·obtain ⟨e,he,rfl⟩:=h
  exact ⟨_,(XD he).1,(XD he).2,.inr ⟨rfl,he,rfl⟩⟩
 ·obtain ⟨r1,e1,k1⟩:=abW l hl
  obtain ⟨r2,e2,k2⟩:=abX l hl
  rcases k1 with rfl | ⟨-,a,b⟩
  ·rcases k2 with rfl | ⟨-,a,b⟩
   ·exact ⟨_,e1,e2,.inl rfl⟩
   ·exact absurd ⟨_,a,b⟩ h
  ·exact absurd ⟨_,a,b⟩ h
end D
namespace D
open Go.RowKit
theorem TS {e:EgT} (h:edOk e) {c:UInt8} (h1:c.toNat≠45) (h2:c.toNat<48):c∉tU e:=by
 obtain ⟨-,-,-,h4⟩:=id h
 rw[JY h]
 intro hm
 rcases aF hm with hm | hm
 ·exact Vf h1 (.inl h2) hm
 ·have e1:(UInt8.ofNat (48+e.2.1.toNat)).toNat=48+e.2.1.toNat:=by have:=h.2.1;simp;omega
  have e2:(UInt8.ofNat (97+e.2.2.2.toNat)).toNat=97+e.2.2.2.toNat:=by simp;omega
  have e3:(UInt8.ofNat (48+e.2.2.1.toNat)).toNat=48+e.2.2.1.toNat:=by have:=h.2.2.1;simp;omega
  have e4:(58:UInt8).toNat=58:=rfl
  simp only[List.mem_cons,List.not_mem_nil,or_false] at hm
  rcases hm with hm | hm | hm | hm <;> (have:=congrArg UInt8.toNat hm;omega)
theorem LD {c:ChT} (h:edOk c.2) {b:UInt8} (h1:b.toNat≠45) (h2:b.toNat<48) (h3:b.toNat≠43):b∉p9 c:=by
 unfold p9
 intro hm
 rcases aB hm with hm | hm
 ·have:=congrArg UInt8.toNat hm
  split at this
  ·exact h3 this
  ·exact h1 this
 ·exact TS h h1 h2 hm
theorem zL {c:UInt8} : ∀ {r:List (List UInt8)} {x:List UInt8},c∉x->(∀y∈r,c∉y)->qa c [] (x++Lib.joinTail [c] r)=x::r
 | [],x,hx,_=>by
  have:Lib.joinTail [c] [] = []:=by simp[Lib.joinTail]
  rw[this,List.append_nil,pd hx];rfl
 | y::r,x,hx,hr=>by
  have:Lib.joinTail [c] (y::r)=c::(y++Lib.joinTail [c] r):=by simp[Lib.joinTail]
  rw[this,rF hx,zL (hr y (by simp)) fun z hz=>hr z (bj _ hz)];rfl
theorem QI {l:List ChT} (h:AF l) (h0:l≠ []):qa 32 [] (btx l)=l.map p9:=by
 cases l with
 | nil=>exact absurd rfl h0
 | cons c r =>
  unfold btx
  rw[List.map_cons,Lib.join_cons]
  refine zL (LD (h c (by simp)) (by decide) (by decide) (by decide)) fun y hy=>?_
  obtain ⟨d,hd,rfl⟩:=List.mem_map.1 hy
  exact LD (h d (bj _ hd)) (by decide) (by decide) (by decide)
theorem QJ:btx [] = []:=by simp[btx,Lib.join_nil]
theorem Vi {l:List ChT} (h0:l≠ []):btx l≠ []:=by
 cases l with
 | nil=>exact absurd rfl h0
 | cons c r=>unfold btx;rw[List.map_cons,Lib.join_cons];simp[p9]
def aab (s:List UInt8) (r:(List ChT)×Bool):Prop:=r=([],false)\/r.2=true/\r.1.length<=6/\AF r.1/\s=btx r.1
theorem QK {p:List UInt8} (h:1<=p.length):sp (mkB p) 1 (p.length:Int)=some (mkB (p.drop 1)):=by
 have:=slB (l:=p) (a:=1) (b:=p.length) h (aD _)
 rw[List.take_length] at this
 exact this
theorem tW (p:List UInt8):(mkB p==(⟨#[]⟩:ByteArray))=decide (p= []):=by
 by_cases h:p= []
 ·subst h;rfl
 ·rw[decide_eq_false h,beq_eq_false_iff_ne]
  intro k
  exact h (yP (b:=[]) k)
open Classical in
theorem Vj {f:List ChT->Option ByteArray} (hf: ∀l,f l=some (if l.length<=6/\AF l then mkB (btx l) else mkB [])) {b:List ChT} {s:List UInt8} (h:s≠ []): ∃r:(List ChT)×Bool,((f b).bind fun r16=>if r16 !=mkB s then (some (([] :List ChT),false)) else (some (b,true)):Option ((List ChT)×Bool))=some r/\aab s r:=by
 rw[hf]
 simp only[aa]
 by_cases k:b.length<=6/\AF b
 ·rw[if_pos k]
  by_cases c:mkB (btx b)=mkB s
  ·rw[if_neg (by simp[c])];exact ⟨_,rfl,.inr ⟨rfl,k.1,k.2,(yP c).symm⟩⟩
  ·rw[if_pos (by simpa using c)];exact ⟨_,rfl,.inl rfl⟩
 ·rw[if_neg k,if_pos (by
   rw[bne_iff_ne]
   exact fun c=>h (yP c).symm)]
  exact ⟨_,rfl,.inl rfl⟩
theorem abY (l:List UInt8) (hl:l.length<=1000000): ∃r,dZ (mkB l)=some r/\(l= [] \/aab l r):=by
 unfold dZ
 by_cases h0:l= []
 ·rw[tW,if_pos (decide_eq_true h0)];exact ⟨_,rfl,.inl h0⟩
 rw[tW,if_neg (by simpa using h0)]
 have ec:iS (mkB l) 32=some ((qa 32 [] l).map mkB):=xD l 32 hl
 rw[ec];simp only[aa]
 obtain ⟨o,e,hQ⟩:=cR (f:=cQ ((qa 32 [] l).map mkB)) (fun i s=> ∃b:List ChT,s=((i:Int),b)/\b.length=i) (fun o=>o= .ret (([] :List ChT),false)\/ ∃s,o= .brk s) 7 (fun i s hi hI=>by
  obtain ⟨b,rfl,hb⟩:=hI
  unfold cQ
  simp only[]
  by_cases h1:i<((qa 32 [] l).map mkB).length
  ·rw[bI h1,if_pos rfl]
   by_cases h7:i<=6
   ·rw[if_pos (decide_eq_true (by omega)),aC h1]
    simp only[aa]
    rw[List.length_map] at h1
    have hp:=tV 32 l [] _ (List.getElem_mem h1)
    rw[List.getElem_map]
    generalize (qa 32 [] l)[i] =p at hp⊢
    rw[aE] at hp
    rw[bF]
    by_cases h2:p.length<2
    ·rw[if_pos (decide_eq_true (by omega))]
     exact .inr ⟨_,rfl,fun s' h=>(by simp at h),.inl rfl⟩
    ·rw[if_neg (by simp;omega),QK (by omega)]
     simp only[aa]
     obtain ⟨r,er,-,-⟩:=QH (p.drop 1) (by rw[aS];omega)
     rw[er]
     simp only[aa]
     have a0:kp (mkB p) 0=some ((p[0].toNat:Nat):Int):=atB (l:=p) (i:=0) (by omega)
     by_cases h3:r.2=true
     ·rw[if_pos h3,a0]
      simp only[aa]
      have hx: ∀z:ChT,cn 40 b [z] =some (b++ [z]):=fun z=>aK (by simp only[al,aE];omega)
      rw[hx]
      simp only[aa]
      exact .inl ⟨by omega,_,rfl,_,by rw[af (by omega)],by simp;omega⟩
     ·rw[if_neg h3]
      exact .inr ⟨_,rfl,fun s' h=>(by simp at h),.inl rfl⟩
   ·rw[if_neg (by simp;omega)]
    exact .inr ⟨_,rfl,fun s' h=>(by simp at h),.inr ⟨_,rfl⟩⟩
  ·rw[if_neg (by simp only[decide_eq_true_eq];omega)]
   exact .inr ⟨_,rfl,fun s' h=>(by simp at h),.inr ⟨_,rfl⟩⟩) (s:=(0,([] :List ChT))) ⟨[],rfl,rfl⟩ (dH _ (by omega))
 rcases hQ with rfl | ⟨s,rfl⟩
 ·rw[cr e];exact ⟨_,rfl,.inr (.inl rfl)⟩
 ·rw[ay e]
  obtain ⟨r,er,k⟩:=Vj (f:=c8) (fun l=>(uK l).1) (b:=s.2) h0
  exact ⟨r,er,.inr k⟩
theorem abZ (l:List UInt8) (hl:l.length<=1000000): ∃r,dY (mkB l)=some r/\(l= [] \/aab l r):=by
 unfold dY
 by_cases h0:l= []
 ·rw[tW,if_pos (decide_eq_true h0)];exact ⟨_,rfl,.inl h0⟩
 rw[tW,if_neg (by simpa using h0)]
 have ec:cO (mkB l) (⟨#[32]⟩)=some ((qa 32 [] l).map mkB):=Gc l 32 hl
 rw[ec];simp only[aa]
 have hn:=F6 32 l []
 obtain ⟨o,e,hQ⟩:=cR (f:=cP ((qa 32 [] l).map mkB)) (fun i s=> ∃b:List ChT,s=((i:Int),b)/\b.length=i) (fun o=>o= .ret (([] :List ChT),false)\/ ∃s,o= .brk s) (qa 32 [] l).length (fun i s hi hI=>by
  obtain ⟨b,rfl,hb⟩:=hI
  unfold cP
  simp only[]
  by_cases h1:i<((qa 32 [] l).map mkB).length
  ·rw[bI h1,if_pos rfl,aC h1]
   simp only[aa]
   rw[List.length_map] at h1
   have hp:=tV 32 l [] _ (List.getElem_mem h1)
   rw[List.getElem_map]
   generalize (qa 32 [] l)[i] =p at hp⊢
   rw[aE] at hp
   rw[tW,bF]
   by_cases h2:p= []
   ·rw[if_pos (decide_eq_true h2)]
    exact .inr ⟨_,rfl,fun s' h=>(by simp at h),.inl rfl⟩
   ·have h2':1<=p.length:=List.length_pos_iff.2 h2
    rw[if_neg (by simpa using h2),QK h2']
    simp only[aa]
    obtain ⟨r,-,er,-⟩:=QH (p.drop 1) (by rw[aS];omega)
    rw[er]
    simp only[aa]
    have a0:kp (mkB p) 0=some ((p[0].toNat:Nat):Int):=atB (l:=p) (i:=0) (by omega)
    by_cases h3:r.2=true
    ·rw[if_pos h3,a0]
     simp only[aa]
     have hx: ∀z:ChT,cn 40 b [z] =some (b++ [z]):=fun z=>aK (by simp only[al,aE];omega)
     rw[hx]
     simp only[aa]
     exact .inl ⟨by omega,_,rfl,_,by rw[af (by omega)],by simp;omega⟩
    ·rw[if_neg h3]
     exact .inr ⟨_,rfl,fun s' h=>(by simp at h),.inl rfl⟩
  ·rw[if_neg (by simp only[decide_eq_true_eq];omega)]
   exact .inr ⟨_,rfl,fun s' h=>(by simp at h),.inr ⟨_,rfl⟩⟩) (s:=(0,([] :List ChT))) ⟨[],rfl,rfl⟩ (dH _ (by omega))
 rcases hQ with rfl | ⟨s,rfl⟩
 ·rw[cr e];exact ⟨_,rfl,.inr (.inl rfl)⟩
 ·rw[ay e]
  obtain ⟨r,er,k⟩:=Vj (f:=eE) (fun l=>(uK l).2) (b:=s.2) h0
  exact ⟨r,er,.inr k⟩
theorem QL {L:List ChT} (h:AF L) (h6:L.length<=6) {i:Nat} (hi:i<L.length):cQ ((L.map p9).map mkB) ((i:Int),L.take i)=some (.nxt (((i+1:Nat):Int),L.take (i+1)))/\cP ((L.map p9).map mkB) ((i:Int),L.take i)=some (.nxt (((i+1:Nat):Int),L.take (i+1))):=by
 have hl:i<((L.map p9).map mkB).length:=by rw[List.length_map,List.length_map];exact hi
 have hk:edOk L[i].2:=h _ (List.getElem_mem hi)
 have hp:=uJ hk
 have eg:((L.map p9).map mkB)[i] =mkB (p9 L[i]):=by simp
 obtain ⟨p1,p2⟩:=XD hk
 have hs:(p9 L[i]).length=(tU L[i].2).length+1:=by unfold p9;rw[al]
 have h4:4<=(tU L[i].2).length:=by rw[JY hk];simp
 have ed:(p9 L[i]).drop 1=tU L[i].2:=rfl
 have a0:kp (mkB (p9 L[i])) 0=some (((if L[i].1 then (43:UInt8) else 45).toNat:Nat):Int):=atB (l:=p9 L[i]) (i:=0) (by omega)
 have hz:((((if L[i].1 then (43:UInt8) else 45).toNat:Nat):Int)==43)=L[i].1:=by
  generalize L[i].1=t
  cases t <;> rfl
 have hx: ∀z:ChT,cn 40 (L.take i) [z] =some (L.take i++ [z]):=fun z=>aK (by rw[aA];simp only[al,aE];omega)
 have et:=List.take_succ_eq_append_getElem hi
 have st:=QK (p:=p9 L[i]) (by omega)
 constructor
 ·unfold cQ
  simp only[]
  rw[bI hl,if_pos rfl,if_pos (decide_eq_true (by omega)),aC hl,eg]
  simp only[aa]
  rw[bF,if_neg (by simp;omega),st,ed]
  simp only[aa]
  rw[p1]
  simp only[aa]
  rw[if_pos trivial,a0]
  simp only[aa]
  rw[hz,hx,af (by omega),et];rfl
 ·unfold cP
  simp only[]
  rw[bI hl,if_pos rfl,aC hl,eg]
  simp only[aa]
  rw[tW,if_neg (by simp[p9]),bF,st,ed]
  simp only[aa]
  rw[p2]
  simp only[aa]
  rw[if_pos trivial,a0]
  simp only[aa]
  rw[hz,hx,af (by omega),et];rfl
theorem Zh {L:List ChT} (h:AF L) (h6:L.length<=6):dZ (mkB (btx L))=some (L,true)/\dY (mkB (btx L))=some (L,true):=by
 by_cases h0:L= []
 ·subst h0
  unfold dZ dY
  rw[QJ]
  exact ⟨rfl,rfl⟩
 have hn:=F5 h
 have hl:(btx L).length<=1000000:=by omega
 have eb: ∀s i:Option ByteArray,True:=fun _ _=>trivial
 obtain ⟨b1,b2⟩:=uK L
 rw[if_pos ⟨h6,h⟩] at b1 b2
 have hs:=bp (f:=cQ ((L.map p9).map mkB)) (fun i=>((i:Int),L.take i)) L.length (fun i hi=>(QL h h6 hi).1) (by
  unfold cQ
  simp only[]
  rw[if_neg (by simp)]) (dH _ (by omega))
 have hi:=bp (f:=cP ((L.map p9).map mkB)) (fun i=>((i:Int),L.take i)) L.length (fun i hi=>(QL h h6 hi).2) (by
  unfold cP
  simp only[]
  rw[if_neg (by simp)]) (dH _ (by omega))
 rw[List.take_length] at hs hi
 constructor
 ·unfold dZ
  have ec:iS (mkB (btx L)) 32=some ((qa 32 [] (btx L)).map mkB):=xD _ 32 hl
  rw[tW,if_neg (by simpa using Vi h0),ec,QI h h0]
  simp only[aa]
  have hs:ax (cQ ((L.map p9).map mkB)) aT (0,([] :List ChT))=_:=hs
  rw[ay hs]
  simp only[]
  rw[b1]
  simp
 ·unfold dY
  have ec:cO (mkB (btx L)) (⟨#[32]⟩)=some ((qa 32 [] (btx L)).map mkB):=Gc _ 32 hl
  rw[tW,if_neg (by simpa using Vi h0),ec,QI h h0]
  simp only[aa]
  have hi:ax (cP ((L.map p9).map mkB)) aT (0,([] :List ChT))=_:=hi
  rw[ay hi]
  simp only[]
  rw[b2]
  simp
theorem XE (l:List UInt8) (hl:l.length<=1000000): ∃r,dZ (mkB l)=some r/\dY (mkB l)=some r/\aab l r:=by
 by_cases h: ∃L:List ChT,L.length<=6/\AF L/\l=btx L
 ·obtain ⟨L,h6,hk,rfl⟩:=h
  exact ⟨_,(Zh hk h6).1,(Zh hk h6).2,.inr ⟨rfl,h6,hk,rfl⟩⟩
 ·have hne:l≠ []:=fun e=>h ⟨[],by simp,fun c hc=>by simp at hc,by rw[e,QJ]⟩
  obtain ⟨r1,e1,k1⟩:=abY l hl
  obtain ⟨r2,e2,k2⟩:=abZ l hl
  rcases k1 with k | rfl | ⟨-,a,b,c⟩
  ·exact absurd k hne
  ·rcases k2 with k | rfl | ⟨-,a,b,c⟩
   ·exact absurd k hne
   ·exact ⟨_,e1,e2,.inl rfl⟩
   ·exact absurd ⟨_,a,b,c⟩ h
  ·exact absurd ⟨_,a,b,c⟩ h
end D
namespace D
open Go.RowKit
def recT (v:Int) (b:List ChT):List UInt8:=((dL v b).getD ByteArray.empty).data.toList
theorem Vk (v:Int) (b:List ChT):dL v b=some (mkB (recT v b))/\eX v b=some (mkB (recT v b))/\(recT v b).length<=1000:=by
 obtain ⟨r,e1,e2,h⟩:=Cx v b
 have e:mkB (recT v b)=r:=by unfold recT;rw[e1];exact F7 r
 rw[<-e,bF] at h
 rw[e]
 exact ⟨e1,e2,h⟩
def totL (r:List Int) (q:List (List ChT)):Nat->Nat
 | 0=>0
 | i+1=>totL r q i+(recT (nth r (i:Int)) (nth q (i:Int))).length
theorem LF {r:List Int} {q:List (List ChT)} (h:q.length=r.length) (x:List Int) (y:List (List ChT)): ∀i,i<=r.length->totL (r++x) (q++y) i=totL r q i
 | 0,_=>rfl
 | i+1,hi=>by
  rw[totL,totL,LF h x y i (by omega),iZ (by omega) (by omega),iZ (by omega) (by omega)]
theorem QM {r:List Int} {q:List (List ChT)} (h:q.length=r.length) (v:Int) (b:List ChT):totL (r++ [v]) (q++ [b]) (r++ [v]).length=totL r q r.length+(recT v b).length:=by
 have e1:nth (r++ [v]) ((r.length:Nat):Int)=v:=by rw[bJ (by simp)];simp
 have e2:nth (q++ [b]) ((r.length:Nat):Int)=b:=by rw[<-h,bJ (by simp)];simp
 rw[aw,al,aE,Nat.zero_add,totL,LF h _ _ _ (aD _),e1,e2]
theorem QN (l:List UInt8) (hl:l.length<=1000000): ∃r:Int×List ChT×Bool,jU (mkB l)=some r/\jR (mkB l)=some r/\r.2.1.length<=6/\(-999999999<=r.1/\r.1<=999999999)/\(r.2.2=true->recT r.1 r.2.1=l):=by
 unfold jU jR
 have ec:iS (mkB l) 59=some ((qa 59 [] l).map mkB):=xD l 59 hl
 have ei:cO (mkB l) (⟨#[59]⟩)=some ((qa 59 [] l).map mkB):=Gc l 59 hl
 rw[ec,ei];simp only[aa]
 by_cases h3:(qa 59 [] l).length=3
 ·have hp:=tV 59 l []
  obtain ⟨a,b,c,e⟩:=aaP h3
  rw[e] at hp⊢
  have hb:=hp b (by simp)
  rw[aE] at hb
  simp only[List.map_cons,List.map_nil]
  have g0:aQ [mkB a,mkB b,mkB c] 0=some (mkB a):=rfl
  have g1:aQ [mkB a,mkB b,mkB c] 1=some (mkB b):=rfl
  rw[if_neg (by simp),if_neg (by simp)]
  obtain ⟨v,v1,v2,kv⟩:=rE (mkB a)
  obtain ⟨q,q1,q2,k⟩:=XE b (by omega)
  obtain ⟨t,t1,t2,-⟩:=Cx v.1 q.1
  have hq:q.1.length<=6:=by
   rcases k with rfl | ⟨-,k,-⟩
   ·simp
   ·exact k
  have hv: -999999999<=v.1/\v.1<=999999999:=by
   rcases kv with ⟨-,k,-⟩ | rfl
   ·exact k
   ·decide
  simp only[g0,g1,v1,v2,q1,q2,t1,t2,aa]
  by_cases c1:v.2=true
  ·by_cases c2:q.2=true
   ·by_cases c3:(t !=mkB l)=true
    ·simp only[if_pos c1,if_pos c2,if_pos c3];exact ⟨_,rfl,rfl,by simp,by decide,fun c=>by cases c⟩
    ·simp only[if_pos c1,if_pos c2,if_neg c3];exact ⟨_,rfl,rfl,hq,hv,fun _=>by
      have e:t=mkB l:=by simpa using c3
      have e2:=(Vk v.1 q.1).1
      rw[t1,e] at e2
      exact (yP (ae e2)).symm⟩
   ·simp only[if_pos c1,if_neg c2];exact ⟨_,rfl,rfl,by simp,by decide,fun c=>by cases c⟩
  ·simp only[if_neg c1];exact ⟨_,rfl,rfl,by simp,by decide,fun c=>by cases c⟩
 ·have k:(((List.map mkB (qa 59 [] l)).length:Int) !=3)=true:=by
   rw[bne_iff_ne,List.length_map];omega
  rw[if_pos k,if_pos k]
  exact ⟨_,rfl,rfl,by simp,by decide,fun c=>by cases c⟩
def ScOk (vs:List Int) (bs:List (List ChT)):Prop:=bs.length=vs.length/\(∀b∈bs,b.length<=6)/\ ∀v∈vs,(-999999999<=v/\v<=999999999)/\v<=nth vs ((vs.length:Int) - 1)
theorem TU (vs:List Int) (v:Int):nth (vs++ [v]) (((vs++ [v]).length:Int) - 1)=v:=by
 have e:(((vs++ [v]).length:Int) - 1)=((vs.length:Nat):Int):=by simp
 rw[e,bJ (by simp)];simp
theorem ScOk.push {vs:List Int} {bs:List (List ChT)} (h:ScOk vs bs) {v:Int} {b:List ChT} (hb:b.length<=6) (hv: -999999999<=v/\v<=999999999) (hx:0<vs.length->v=i64.wrap (nth vs ((vs.length:Int) - 1)+1)):ScOk (vs++ [v]) (bs++ [b]):=by
 obtain ⟨h1,h2,h3⟩:=h
 refine ⟨by simp;omega,fun d hd=>?_,fun d hd=>?_⟩
 ·rcases aF hd with q | q
  ·exact h2 d q
  ·obtain rfl:=aq q;exact hb
 ·rw[TU]
  rcases aF hd with q | q
  ·have h0:0<vs.length:=List.length_pos_of_mem q
   obtain ⟨k1,k2⟩:=h3 d q
   obtain ⟨k3,-⟩:=h3 _ (b9 (xs:=vs) (i:=(vs.length:Int) - 1) (by omega) (by omega))
   have:=hx h0
   rw[fy (by omega) (by omega)] at this
   exact ⟨k1,by omega⟩
  ·obtain rfl:=aq q;exact ⟨hv,Int.le_refl _⟩
theorem Ge {l:List UInt8} (hl:l.length<=4000) {vs:List Int} {bs:List (List ChT)} {u:Int} : ∀(a r:List UInt8) (i k:Nat),(10:UInt8)∉a->l.drop i=a++r->i<=l.length->ax (bA (mkB l)) (k+a.length) (vs,bs,u,(i:Int))=ax (bA (mkB l)) k (vs,bs,u,((i+a.length:Nat):Int))
 | [],r,i,k,_,_,_=>rfl
 | x::a,r,i,k,hx,e,hi=>by
  have h1:i<l.length:=by
   have:=congrArg List.length e
   rw[aS,aw,al] at this;omega
  have e0:=List.drop_eq_getElem_cons h1
  rw[e0,List.cons_append] at e
  obtain ⟨e1,e2⟩:=List.cons.inj e
  have hn:x.toNat≠10:=fun q=>hx (by
   have:x=10:=UInt8.toNat_inj.1 q
   rw[this];simp)
  have st:bA (mkB l) (vs,bs,u,(i:Int))=some (.nxt (vs,bs,u,((i+1:Nat):Int))):=by
   unfold bA
   simp only[]
   rw[bF,bI h1,if_pos rfl,if_pos (decide_eq_true (by omega)),atB h1,e1]
   simp only[aa]
   rw[if_pos (by rw[bne_iff_ne];omega),af (by omega)];rfl
  rw[al,show k+(a.length+1)=(k+a.length)+1 by omega,ax,st]
  show ax _ (k+a.length) _=_
  rw[Ge hl a r (i+1) k (fun q=>hx (bj _ q)) e2 h1,show i+1+a.length=i+(a.length+1) by omega]
theorem XF {l:List UInt8} (hl:l.length<=4000): ∀(m p:Nat) (vs:List Int) (bs:List (List ChT)),l.length - p<m->p<=l.length->vs.length<=p->ScOk vs bs->totL vs bs vs.length<=p-> ∃(r:List Int) (q:List (List ChT)) (n:Nat),(∀k,l.length - p+1<=k->(ax (bA (mkB l)) k (vs,bs,(p:Int),(p:Int))=some (.ret (r,q,(n:Int)))\/ ∃i,ax (bA (mkB l)) k (vs,bs,(p:Int),(p:Int))=some (.brk (r,q,(n:Int),i)))/\ax (cE (mkB l)) k (vs,bs,(p:Int))=some (.brk (r,q,(n:Int))))/\n<=l.length/\r.length<=n/\ScOk r q/\totL r q r.length<=n:=by
 intro m
 induction m with
 | zero=>intro p vs bs hm;omega
 | succ m ih =>
  intro p vs bs hm hp hv hb ht
  have hbl:=hb.1
  have hsl:sp (mkB l) (p:Int) (l.length:Int)=some (mkB (l.drop p)):=by
   rw[slB hp (aD _),List.take_length]
  rcases uL 10 (l.drop p) with k | ⟨a,t,e,k⟩
  ·refine ⟨vs,bs,p,fun j hj=>⟨.inr ⟨(l.length:Int),?_⟩,?_⟩,hp,hv,hb,ht⟩
   ·have hd:(l.drop p).length=l.length - p:=aS ..
    obtain ⟨j,rfl⟩: ∃j',j=(j'+1)+(l.drop p).length:=⟨j - 1 - (l.length - p),by omega⟩
    rw[Ge hl (l.drop p) [] p (j+1) k (by simp) hp,ax,hd,show p+(l.length - p)=l.length by omega]
    have:bA (mkB l) (vs,bs,(p:Int),(l.length:Int))=some (.brk (vs,bs,(p:Int),(l.length:Int))):=by
     unfold bA
     simp only[]
     rw[bF,if_neg (by simp)]
    rw[this]
   ·obtain ⟨j,rfl⟩: ∃j',j=j'+1:=⟨j - 1,by omega⟩
    have:cE (mkB l) (vs,bs,(p:Int))=some (.brk (vs,bs,(p:Int))):=by
     unfold cE
     simp only[]
     have ei:fc (mkB (l.drop p)) 10=some (-1):=by
      show some (Lib.indexByte _ 10)=_
      rw[fp,LC k]
     rw[bF,if_pos (decide_eq_true (by omega)),hsl]
     simp only[aa]
     rw[ei]
     simp only[aa]
     rw[if_pos (by decide)]
    rw[ax,this]
  ·have hlen:(l.drop p).length=l.length - p:=aS ..
   rw[e,aw,al] at hlen
   have hn:p+a.length<l.length:=by omega
   have hx:l[p+a.length] =10:=by
    have:(l.drop p)[a.length]? =some 10:=by rw[e];simp
    rw[List.getElem?_drop,List.getElem?_eq_getElem hn] at this
    exact ae this
   obtain ⟨r,r1,r2,h6,h9,h8⟩:=QN ((l.take (p+a.length+1)).drop p) (by rw[aS,aA];omega)
   have es:sp (mkB l) (p:Int) ((p+a.length+1:Nat):Int)=some (mkB ((l.take (p+a.length+1)).drop p)):=slB (by omega) (by omega)
   have ei:fc (mkB (l.drop p)) 10=some (a.length:Int):=by
    show some (Lib.indexByte _ 10)=_
    rw[fp,e,Ve k]
   have w1:i64.wrap ((i64.wrap ((p:Int)+(a.length:Int)))+1)=((p+a.length+1:Nat):Int):=by
    rw[fy (n:=(p:Int)+(a.length:Int)) (by omega) (by omega),fy (by omega) (by omega)];omega
   have w2:i64.wrap ((p:Int)+(i64.wrap ((a.length:Int)+1)))=((p+a.length+1:Nat):Int):=by
    rw[fy (n:=(a.length:Int)+1) (by omega) (by omega),fy (by omega) (by omega)];omega
   have step:(bA (mkB l) (vs,bs,(p:Int),((p+a.length:Nat):Int))=some (.ret (vs,bs,(p:Int)))/\cE (mkB l) (vs,bs,(p:Int))=some (.brk (vs,bs,(p:Int))))\/(bA (mkB l) (vs,bs,(p:Int),((p+a.length:Nat):Int))=some (.nxt (vs++ [r.1],bs++ [r.2.1],((p+a.length+1:Nat):Int),((p+a.length+1:Nat):Int)))/\cE (mkB l) (vs,bs,(p:Int))=some (.nxt (vs++ [r.1],bs++ [r.2.1],((p+a.length+1:Nat):Int)))/\(0<vs.length->r.1=i64.wrap (nth vs ((vs.length:Int) - 1)+1))/\r.2.2=true):=by
    have x1:cn 8 vs [r.1] =some (vs++ [r.1]):=aK (by simp only[al,aE];omega)
    have x2:cn 24 bs [r.2.1] =some (bs++ [r.2.1]):=aK (by simp only[al,aE];omega)
    unfold bA cE
    simp only[]
    rw[bF,bI hn,if_pos rfl,if_pos (decide_eq_true (by omega)),if_pos (decide_eq_true (by omega)),atB hn,hx,hsl]
    simp only[aa]
    rw[if_neg (by decide),ei,af (show p+a.length<9223372036854775807 by omega),es]
    simp only[aa]
    rw[r1,if_neg (by simp),w1,w2,es]
    simp only[aa]
    rw[r2]
    simp only[aa]
    by_cases c1:r.2.2=true
    ·rw[if_pos c1,if_pos c1]
     by_cases c2:decide ((vs.length:Int)>0)=true
     ·rw[if_pos c2,if_pos c2]
      have h0:0<vs.length:=by simpa using c2
      rw[pb (by omega),aI (xs:=vs) (by omega) (by omega)]
      simp only[aa]
      by_cases c3:(r.1 !=i64.wrap (nth vs ((vs.length:Int) - 1)+1))=true
      ·rw[if_pos c3,if_pos c3];exact .inl ⟨rfl,rfl⟩
      ·rw[if_neg c3,if_neg c3,x1,x2];exact .inr ⟨rfl,rfl,(fun _=>by simpa using c3),c1⟩
     ·rw[if_neg c2,if_neg c2,x1,x2];exact .inr ⟨rfl,rfl,(fun h=>absurd (decide_eq_true (show (vs.length:Int)>0 by omega)) c2),c1⟩
    ·rw[if_neg c1,if_neg c1];exact .inl ⟨rfl,rfl⟩
   rcases step with ⟨s1,s2⟩ | ⟨s1,s2,s3,s4⟩
   ·refine ⟨vs,bs,p,fun j hj=>⟨.inl ?_,?_⟩,hp,hv,hb,ht⟩
    ·obtain ⟨j,rfl⟩: ∃j',j=(j'+1)+a.length:=⟨j - 1 - a.length,by omega⟩
     rw[Ge hl a (10::t) p (j+1) k e hp,ax,s1]
    ·obtain ⟨j,rfl⟩: ∃j',j=j'+1:=⟨j - 1,by omega⟩
     rw[ax,s2]
   ·have hT:totL (vs++ [r.1]) (bs++ [r.2.1]) (vs++ [r.1]).length<=p+a.length+1:=by
     rw[QM hbl,h8 s4,aS,aA];omega
    obtain ⟨R,Q,n,h1,h2,h3,h4⟩:=ih (p+a.length+1) (vs++ [r.1]) (bs++ [r.2.1]) (by omega) (by omega) (by simp;omega) (hb.push h6 h9 s3) hT
    refine ⟨R,Q,n,fun j hj=>⟨?_,?_⟩,h2,h3,h4⟩
    ·obtain ⟨j,rfl⟩: ∃j',j=(j'+1)+a.length:=⟨j - 1 - a.length,by omega⟩
     rw[Ge hl a (10::t) p (j+1) k e hp,ax,s1]
     exact (h1 j (by omega)).1
    ·obtain ⟨j,rfl⟩: ∃j',j=j'+1:=⟨j - 1,by omega⟩
     rw[ax,s2]
     exact (h1 j (by omega)).2
theorem zM (l:List UInt8) (hl:l.length<=1000000000): ∃(r:List Int) (q:List (List ChT)) (n:Nat),m_s_ScanLog (mkB l)=some (r,q,(n:Int))/\m_i_ScanLog (mkB l)=some (r,q,(n:Int))/\n<=l.length/\r.length<=4000/\ScOk r q/\totL r q r.length<=n:=by
 unfold m_s_ScanLog m_i_ScanLog
 by_cases h:l.length<=4000
 ·obtain ⟨r,q,n,h1,h2,h3,h4⟩:=XF h (l.length+1) 0 [] [] (by omega) (by omega) (by simp) ⟨rfl,fun b hb=>(by cases hb),fun b hb=>(by cases hb)⟩ (Nat.zero_le _)
  obtain ⟨k1,k2⟩:=h1 aT (dH _ (by omega))
  have k2:ax (cE (mkB l)) aT (([] :List Int),([] :List (List ChT)),0)=some (.brk (r,q,(n:Int))):=k2
  refine ⟨r,q,n,?_,?_,h2,by omega,h4⟩
  ·rcases k1 with k1 | ⟨i,k1⟩
   ·have k1:ax (bA (mkB l)) aT (([] :List Int),([] :List (List ChT)),0,0)=_:=k1
    rw[cr k1]
   ·have k1:ax (bA (mkB l)) aT (([] :List Int),([] :List (List ChT)),0,0)=_:=k1
    rw[ay k1]
  ·rw[ay k2]
 ·have hf:=dH 100 (by omega)
  obtain ⟨k,hk⟩: ∃k,aT=k+1:=⟨aT - 1,by omega⟩
  have k1:ax (bA (mkB l)) aT (([] :List Int),([] :List (List ChT)),0,0)=some (.brk ([],[],0,0)):=by
   rw[hk,ax]
   have:bA (mkB l) (([] :List Int),([] :List (List ChT)),0,0)=some (.brk ([],[],0,0)):=by
    unfold bA
    simp only[]
    rw[bF,if_pos (decide_eq_true (by omega)),if_neg (by simp;omega)]
   rw[this]
  have k2:ax (cE (mkB l)) aT (([] :List Int),([] :List (List ChT)),0)=some (.brk ([],[],0)):=by
   rw[hk,ax]
   have:cE (mkB l) (([] :List Int),([] :List (List ChT)),0)=some (.brk ([],[],0)):=by
    unfold cE
    simp only[]
    rw[bF,if_neg (by simp;omega)]
   rw[this]
  rw[ay k1,ay k2]
  exact ⟨[],[],0,rfl,rfl,by omega,by simp,⟨rfl,fun b hb=>(by cases hb),fun b hb=>(by cases hb)⟩,aD _⟩
end D
namespace D
open Go.RowKit
abbrev GrT:=(List Int)×(List Yq1)
theorem Zi {R:Type} {f:Int->Option (Out R Int)} (N:Nat) (p:Nat->Prop) [DecidablePred p] (r:R) (hN:N<=9223372036854775807)
  (h: ∀i:Nat,i<N->f (i:Int)=some (if p i then .nxt ((i+1:Nat):Int) else .ret r)) (he:f (N:Int)=some (.brk (N:Int))) :
  (ax f aT 0=some (.brk (N:Int))/\ ∀i,i<N->p i)\/(ax f aT 0=some (.ret r)/\ ¬ ∀i,i<N->p i):=by
 obtain ⟨o,e,hq⟩:=cR (f:=f) (fun i s=>s=(i:Int)/\ ∀j:Nat,j<i->p j) (fun o=>(o= .brk (N:Int)/\ ∀i,i<N->p i)\/(o= .ret r/\ ¬ ∀i,i<N->p i)) N (s:=0) (by
  rintro i s hi ⟨rfl,hp⟩
  by_cases hl:i<N
  ·by_cases c:p i
   ·refine .inl ⟨hl,_,by rw[h i hl,if_pos c],rfl,fun j hj=>?_⟩
    by_cases e:j=i
    ·subst e;exact c
    ·exact hp j (by omega)
   ·exact .inr ⟨_,by rw[h i hl,if_neg c],(fun s' e=>by cases e),.inr ⟨rfl,fun hx=>c (hx i hl)⟩⟩
  ·obtain rfl:i=N:=by omega
   exact .inr ⟨_,he,(fun s' e=>by cases e),.inl ⟨rfl,hp⟩⟩) ⟨rfl,by omega⟩ (vx hN)
 rcases hq with ⟨rfl,hq⟩ | ⟨rfl,hq⟩
 ·exact .inl ⟨e,hq⟩
 ·exact .inr ⟨e,hq⟩
structure GOk (g:GrT):Prop where
 n1:1<=g.1.length
 n5:g.1.length<=5
 m:g.2.length<=12
 val: ∀v∈g.1,0<=v/\v<=2
 edge: ∀e∈g.2,(0<=e.2.1/\e.2.1<g.1.length)/\(0<=e.2.2.1/\e.2.2.1<g.1.length)/\0<=e.2.2.2/\e.2.2.2<=2
 asc: ∀i:Nat,i+1<g.2.length->(nth g.2 i).1<(nth g.2 ((i+1:Nat):Int)).1
def edgeP (e:Int×Int×Int×Int) (n:Int):Prop:=(1<=e.1/\e.1<=99)/\(0<=e.2.1/\e.2.1<=n - 1)/\(0<=e.2.2.1/\e.2.2.1<=n - 1)/\0<=e.2.2.2/\e.2.2.2<=2
instance (e n):Decidable (edgeP e n):=by unfold edgeP;infer_instance
theorem Vl (e:Int×Int×Int×Int) {n:Nat} (hn:n<=1048576):fP e (n:Int)=some (decide (edgeP e n)):=by
 unfold fP edgeP
 simp only[IA,aa,pb (show n<=9223372036854775807 by omega)]
 by_cases c1:1<=e.1/\e.1<=99 <;> by_cases c2:0<=e.2.1/\e.2.1<=(n:Int) - 1 <;> by_cases c3:0<=e.2.2.1/\e.2.2.1<=(n:Int) - 1 <;> simp[c1,c2,c3]
def Ng (g:GrT):Prop:=GOk g/\ ∀e∈g.2,1<=e.1/\e.1<=99
theorem AG (g:GrT) (h1:g.1.length<=1048576) (h2:g.2.length<=1048576): ∃b,bL g=some b/\(b=true↔Ng g):=by
 unfold bL
 have k0:=Zi (f:=eC g) g.1.length (fun i=>0<=nth g.1 i/\nth g.1 i<=2) false (by omega) (fun i hi=>by
  unfold eC
  rw[if_pos (by simp;omega),aI (by omega) (by omega)];simp only[aa,IA,decide_eq_true_eq]
  split
  ·rw[af (by omega)]
  ·rfl) (by unfold eC;rw[if_neg (by simp)])
 have k1:=Zi (f:=dj g) g.2.length (fun i=>edgeP (nth g.2 i) g.1.length/\(0<i->(nth g.2 ((i:Int) - 1)).1<(nth g.2 i).1)) false (by omega) (fun i hi=>by
  unfold dj
  rw[if_pos (by simp;omega),aI (by omega) (by omega)];simp only[aa]
  have e1:=Vl (nth g.2 (i:Int)) h1
  have e1:fP ((nth g.2 (i:Int)).1,(nth g.2 (i:Int)).2.1,(nth g.2 (i:Int)).2.2.1,(nth g.2 (i:Int)).2.2.2) (g.1.length:Int)=_:=e1
  rw[e1];simp only[aa,decide_eq_true_eq]
  by_cases c1:edgeP (nth g.2 (i:Int)) g.1.length
  ·rw[if_pos c1]
   by_cases c2:0<i
   ·rw[if_pos (by omega),pb (by omega),aI (by omega) (by omega)];simp only[aa]
    by_cases c3:(nth g.2 ((i:Int) - 1)).1<(nth g.2 (i:Int)).1
    ·rw[if_neg (by omega),if_pos ⟨c1,fun _=>c3⟩,af (by omega)]
    ·rw[if_pos (by omega),if_neg (fun h=>c3 (h.2 c2))]
   ·rw[if_neg (by omega),if_pos ⟨c1,fun h=>absurd h c2⟩,af (by omega)]
  ·rw[if_neg c1,if_neg (fun h=>c1 h.1)]) (by unfold dj;rw[if_neg (by simp)])
 rcases k0 with ⟨k0,j0⟩ | ⟨k0,j0⟩
 ·rw[ay k0]
  rcases k1 with ⟨k1,j1⟩ | ⟨k1,j1⟩
  ·rw[ay k1,IA];simp only[aa,decide_eq_true_eq]
   split
   ·rename_i c
    refine ⟨_,rfl,fun hb=>?_,fun G=>decide_eq_true (by have:=G.1.m;omega)⟩
    have hb:=of_decide_eq_true hb
    refine ⟨⟨by omega,by omega,by omega,fun v hv=>?_,fun e he=>?_,fun i hi=>?_⟩,fun e he=>?_⟩
    rotate_left 3
    ·obtain ⟨i,hi,rfl⟩:=FL he
     exact (j1 i hi).1.1
    ·obtain ⟨i,hi,rfl⟩:=FL hv
     exact j0 i hi
    ·obtain ⟨i,hi,rfl⟩:=FL he
     obtain ⟨a1,a2,a3,a4⟩:=(j1 i hi).1
     exact ⟨⟨a2.1,by omega⟩,⟨a3.1,by omega⟩,a4⟩
    ·have:=(j1 (i+1) hi).2 (by omega)
     rwa [show (((i+1:Nat):Int) - 1)=(i:Int) from by omega] at this
   ·rename_i c
    exact ⟨false,rfl,(fun h=>by cases h),fun G=>absurd (by have:=G.1.n1;have:=G.1.n5;omega) c⟩
  ·rw[cr k1]
   refine ⟨false,rfl,(fun h=>by cases h),fun G=>absurd (fun i hi=>?_) j1⟩
   have hm:=b9 (xs:=g.2) (i:=(i:Int)) (by omega) (by omega)
   obtain ⟨e1,e2,e3,e4⟩:=G.1.edge _ hm
   refine ⟨⟨G.2 _ hm,⟨e1.1,by omega⟩,⟨e2.1,by omega⟩,e3,e4⟩,fun h0=>?_⟩
   have:=G.1.asc (i - 1) (by omega)
   rwa [show ((i - 1:Nat):Int)=(i:Int) - 1 from by omega,show (((i - 1)+1:Nat):Int)=(i:Int) from by omega] at this
 ·rw[cr k0]
  exact ⟨false,rfl,(fun h=>by cases h),fun G=>absurd (fun i hi=>G.1.val _ (b9 (by omega) (by omega))) j0⟩
theorem TV (g:GrT) (h1:g.1.length<=1048576) (h2:g.2.length<=1048576): ∃b,bL g=some b/\(b=true->GOk g):=by
 obtain ⟨b,h1,h2⟩:=AG g h1 h2
 exact ⟨b,h1,fun h=>(h2.1 h).1⟩
theorem GOk.lt {g:GrT} (G:GOk g) {i j:Nat} (h:i<j) (hj:j<g.2.length):(nth g.2 (i:Int)).1<(nth g.2 (j:Int)).1:=by
 induction h with
 | refl=>exact G.asc i hj
 | step h ih =>
  rename_i m
  have h1:=ih (by omega)
  have h2:=G.asc m hj
  exact Int.lt_trans h1 h2
end D
namespace D
open Go.RowKit
end D
namespace D
open Go.RowKit
section
variable {a:AutT} {n:Nat} (V:VA a n) (hn:n<=12)
include V hn
end
section
variable {a:AutT} {n:Nat} (V:VA a n) (hn:n<=12)
include V hn
end
section
variable {a:AutT} {n:Nat} (V:VA a n) (hn:n<=12)
include V
include hn
end
end D
namespace D
open Go.RowKit
section
variable {α:Type} {N:Nat} {F G:Nat->α}
end
abbrev EdT:=Int×Int×Int×Int
abbrev ArT:=(Int×Bool)×Int×Int
def inv (e:EdT):ArT:=((e.1,true),2*e.2.2.2+1,e.2.1)
end D
namespace D
open Go.RowKit
section
variable {g:GrT} {a:AutT} (G:GOk g) (V:VA a a.2.1.length) (hn:a.2.1.length<=12)
include G V hn
end
section
variable {g:GrT} {a:AutT} {F:Nat->List Int} {N:Nat}
end
section
variable {g:GrT} {a:AutT} (G:GOk g) (V:VA a a.2.1.length) (hn:a.2.1.length<=12)
include G V hn
end
end D
namespace D
open Go.RowKit
section
variable {a:AutT} {n:Nat} (V:VA a n) (hn:n<=12)
include V hn
end
section
variable {g:GrT} {a:AutT} (G:GOk g) (V:VA a a.2.1.length) (hn:a.2.1.length<=12)
include G V hn
end
end D
namespace D
open Go.RowKit
section
variable {nx:Int->List Int} {N:Nat} {v:Int} (hv:0<=v/\v<N) (hn: ∀x:Int,0<=x->x<N-> ∀y∈nx x,0<=y/\y<N)
include hv
include hn
end
end D
namespace D
open Go.RowKit
section
variable {nx:Int->List Int} {N:Nat} {v:Int} (hN:N<=60) (hv:0<=v/\v<N) (hn: ∀x:Int,0<=x->x<N-> ∀y∈nx x,0<=y/\y<N) (hl: ∀x,(nx x).length<=100000)
include hN hv hn hl
end
end D
namespace D
open Go.RowKit
end D
namespace D
open Go.RowKit
theorem xE (g:GrT):da g=bL g:=by
 have h0:oF g=eC g:=rfl
 have h1:kq g=dj g:=by
  funext s
  unfold kq dj
  split
  ·cases hx:aQ g.2 s with
   | none=>rfl
   | some x=>rfl
  ·rfl
 unfold da bL
 rw[h0,h1];rfl
def aaQ (g:GrT) (a:AutT):Prop:=GOk g/\a.2.1.length<=12/\VA a a.2.1.length
section
variable {g:GrT} {a:AutT} (H:aaQ g a)
include H
end
section
variable {g:GrT} {a:AutT} (H:aaQ g a)
include H
end
section
variable {g:GrT} {a:AutT} (H:aaQ g a) {x:Int} (hx:0<=x/\x<g.1.length)
include H hx
end
end D
namespace D
open Go.RowKit
abbrev Tok:=Int×Int×Int×Int
def ar (t:Tok):Int:=
 if t.1=1\/t.1=2 then (if t.2.1=0/\t.2.2.1=0/\t.2.2.2=0 then 0 else -1)
 else if t.1=3 then (if (0<=t.2.1/\t.2.1<=8)/\t.2.2.1=0/\t.2.2.2=0 then 0 else -1)
 else if t.1=4\/t.1=5 then (if t.2.1=0/\t.2.2.1=0/\t.2.2.2=0 then 2 else -1)
 else if t.1=6 then (if t.2.1=0/\t.2.2.1=0/\t.2.2.2=0 then 1 else -1)
 else if t.1=7 then (if t.2.1=0/\(0<=t.2.2.1/\t.2.2.1<=t.2.2.2)/\(1<=t.2.2.2/\t.2.2.2<=3) then 1 else -1)
 else -1
theorem TW (x:Int):mX x=some (decide (0<=x/\x<=8)):=by unfold mX;rw[NA];rfl
theorem TX (x:Int):kA x=some (decide (0<=x/\x<=8)):=by unfold kA;rw[IA];rfl
theorem abG (t:Tok):oH t=some (ar t):=by
 obtain ⟨k,l,lo,hi⟩:=t
 unfold oH ar
 simp only[TW,NA,aa]
 by_cases h1:k=1
 ·subst h1;simp;grind
 by_cases h2:k=2
 ·subst h2;simp;grind
 by_cases h3:k=3
 ·subst h3;simp;grind
 by_cases h4:k=4
 ·subst h4;simp;grind
 by_cases h5:k=5
 ·subst h5;simp;grind
 by_cases h6:k=6
 ·subst h6;simp;grind
 by_cases h7:k=7
 ·subst h7;simp;grind
 simp[h1,h2,h3,h4,h5,h6,h7]
theorem Zj (t:Tok):ra t=some (decide (0<=ar t)):=by
 obtain ⟨k,l,lo,hi⟩:=t
 unfold ra ar
 simp only[TX,IA,aa]
 by_cases h1:k=1
 ·subst h1;simp;grind
 by_cases h2:k=2
 ·subst h2;simp;grind
 by_cases h3:k=3
 ·subst h3;simp only[]
  by_cases a:0<=l/\l<=8 <;> by_cases b:lo=0 <;> by_cases c:hi=0 <;> simp[a,b,c]
 by_cases h4:k=4
 ·subst h4;simp;grind
 by_cases h5:k=5
 ·subst h5;simp;grind
 by_cases h6:k=6
 ·subst h6;simp;grind
 by_cases h7:k=7
 ·subst h7;simp only[]
  by_cases a:l=0 <;> by_cases b:0<=lo/\lo<=hi <;> by_cases c:1<=hi/\hi<=3 <;> simp[a,b,c]
 simp[h1,h2,h3,h4,h5,h6,h7]
theorem xF (t:Tok): -1<=ar t/\ar t<=2:=by
 unfold ar
 grind
theorem pe {t:Tok} (h:0<=ar t):(ar t=2/\(t.1=4\/t.1=5))\/(ar t=1/\(t.1=6\/t.1=7))\/(ar t=0/\(t.1=1\/t.1=2\/t.1=3)):=by
 unfold ar at h⊢
 grind
theorem Cy {t:Tok} (h:0<=ar t) (k:t.1=7):(0<=t.2.2.1/\t.2.2.1<=t.2.2.2)/\(1<=t.2.2.2/\t.2.2.2<=3):=by
 unfold ar at h
 grind
mutual
def flat:Tr Tok->List Tok
 | .nil=>[]
 | .node t ks=>ky ks++ [t]
def ky:List (Tr Tok)->List Tok
 | [] =>[]
 | k::ks=>flat k++ky ks
end
inductive WT:Tr Tok->Prop
 | node {t:Tok} {ks:List (Tr Tok)} :ar t=(ks.length:Int)->(∀k,k∈ks->WT k)->WT (.node t ks)
theorem qR: ∀(a b:List (Tr Tok)),ky (a++b)=ky a++ky b
 | [],b=>rfl
 | k::a,b=>by rw[List.cons_append,ky,ky,qR a b,ai]
theorem ni (x:Tr Tok):ky [x] =flat x:=by rw[ky,ky,List.append_nil]
theorem QO (x y:Tr Tok):ky [x,y] =flat x++flat y:=by rw[ky,ni]
theorem WT.cases {x:Tr Tok} (h:WT x):(∃t,x= .node t [] /\ar t=0)\/(∃t a,x= .node t [a] /\ar t=1/\WT a)\/ ∃t a b,x= .node t [a,b] /\ar t=2/\WT a/\WT b:=by
 cases h with
 | @node t ks h1 h2 =>
  have:=(xF t).2
  match ks,h1,h2 with
  | [],h1,h2=>exact .inl ⟨t,rfl,h1⟩
  | [a],h1,h2=>exact .inr (.inl ⟨t,a,rfl,h1,h2 a (by simp)⟩)
  | [a,b],h1,h2=>exact .inr (.inr ⟨t,a,b,rfl,h1,h2 a (by simp),h2 b (by simp)⟩)
  | _::_::_::_,h1,h2=>simp at h1;omega
theorem WT.ind {p:Tr Tok->Prop} (h0: ∀t,ar t=0->p (.node t [])) (h1: ∀t a,ar t=1->WT a->p a->p (.node t [a])) (h2: ∀t a b,ar t=2->WT a->WT b->p a->p b->p (.node t [a,b])) {x:Tr Tok} (h:WT x):p x:=by
 induction h with
 | @node t ks e k ih =>
  have:=(xF t).2
  match ks,e,k,ih with
  | [],e,k,ih=>exact h0 t e
  | [a],e,k,ih=>exact h1 t a e (k a (by simp)) (ih a (by simp))
  | [a,b],e,k,ih=>exact h2 t a b e (k a (by simp)) (k b (by simp)) (ih a (by simp)) (ih b (by simp))
  | _::_::_::_,e,_,_=>simp at e;omega
theorem DA (t:Tok):flat (.node t [])= [t]:=by rw[flat,ky];rfl
theorem Gf (t:Tok) (a:Tr Tok):flat (.node t [a])=flat a++ [t]:=by rw[flat,ni]
theorem wu (t:Tok) (a b:Tr Tok):flat (.node t [a,b])=(flat a++flat b)++ [t]:=by rw[flat,QO]
theorem WT.pos {x:Tr Tok} (h:WT x):1<=(flat x).length:=by
 cases h with
 | node h1 h2=>rw[flat];simp
def stp (s:List (Tr Tok)) (t:Tok):Option (List (Tr Tok)):=if ar t<0\/(s.length:Int)<ar t then none else some (s.take (s.length - (ar t).toNat)++ [.node t (s.drop (s.length - (ar t).toNat))])
def run:List (Tr Tok)->List Tok->Option (List (Tr Tok))
 | s,[] =>some s
 | s,t::l=>(stp s t).bind fun s'=>run s' l
theorem Gg: ∀(a:List Tok) {b:List Tok} {s:List (Tr Tok)},run s (a++b)=(run s a).bind fun s'=>run s' b
 | [],b,s=>rfl
 | t::a,b,s=>by
  rw[List.cons_append,run,run]
  cases stp s t with
  | none=>rfl
  | some s'=>exact Gg a
theorem xG {a:List Tok} {t:Tok} {s:List (Tr Tok)} :run s (a++ [t])=(run s a).bind fun s'=>stp s' t:=by
 rw[Gg]
 congr 1
 funext s'
 rw[run]
 cases stp s' t <;> rfl
theorem Vm: ∀ {l:List Tok} {s s':List (Tr Tok)},run s l=some s'->(∀k,k∈s->WT k)->(∀k,k∈s'->WT k)/\ky s'=ky s++l
 | [],s,s',h,hs=>by
  obtain rfl:=ae h
  exact ⟨hs,by simp⟩
 | t::l,s,s',h,hs=>by
  rw[run] at h
  unfold stp at h
  by_cases c:ar t<0\/(s.length:Int)<ar t
  ·rw[if_pos c] at h;cases h
  ·rw[if_neg c] at h
   have hlen:(s.drop (s.length - (ar t).toNat)).length=(ar t).toNat:=by rw[aS];omega
   obtain ⟨k1,k2⟩:=Vm (show run _ l=some s' from h) fun k hk=>by
    rcases aF hk with hk | hk
    ·exact hs k (List.mem_of_mem_take hk)
    ·obtain rfl:=aq hk
     exact .node (by rw[hlen];omega) fun k hk=>hs k (List.mem_of_mem_drop hk)
   refine ⟨k1,?_⟩
   rw[k2,qR,ni,flat,<-ai,<-qR,List.take_append_drop]
   simp
theorem TY {x:Tr Tok} (h:WT x): ∀s,run s (flat x)=some (s++ [x]):=by
 refine WT.ind (p:=fun x=> ∀s,run s (flat x)=some (s++ [x])) ?_ ?_ ?_ h
 ·intro t e s
  rw[DA,run,stp,if_neg (by omega),e]
  simp[run]
 ·intro t a e _ ia s
  rw[Gf,xG,ia]
  show stp (s++ [a]) t=_
  rw[stp,if_neg (by simp;omega),e]
  simp
 ·intro t a b e _ _ ia ib s
  rw[wu,xG,Gg,ia]
  show ((run (s++ [a]) (flat b)).bind fun s'=>stp s' t)=_
  rw[ib]
  show stp (s++ [a] ++ [b]) t=_
  rw[stp,if_neg (by simp;omega),e]
  have:(s++ [a] ++ [b]).length - (2:Int).toNat=s.length:=by simp
  rw[this]
  simp
def isX (e:List Tok):Bool:=match run [] e with
 | some [_] =>true
 | _=>false
theorem QP {e:List Tok} (h:isX e=true): ∃x,run [] e=some [x] /\WT x/\flat x=e:=by
 unfold isX at h
 split at h
 ·rename_i x hx
  obtain ⟨k1,k2⟩:=Vm hx (fun k hk=>by cases hk)
  refine ⟨x,hx,k1 x (by simp),?_⟩
  rw[ni] at k2
  rw[k2];rfl
 ·cases h
theorem QQ {l:List Tok} : ∀ {s s':List (Tr Tok)},run s l=some s'->s'.length<=s.length+l.length:=by
 induction l with
 | nil=>intro s s' h;obtain rfl:=ae h;simp
 | cons t l ih =>
  intro s s' h
  rw[run] at h
  obtain ⟨s1,h1,h2⟩:=Option.bind_eq_some_iff.1 h
  have h3:=ih h2
  unfold stp at h1
  split at h1
  ·cases h1
  ·obtain rfl:=ae h1
   simp only[aw,aA,al,aE] at h3⊢
   omega
theorem Cz {e:List Tok} {i:Nat} (h:i<e.length):e.take (i+1)=e.take i++ [nth e (i:Int)]:=by
 rw[List.take_succ_eq_append_getElem h,bJ h]
theorem AH {e:List Tok} {i:Nat} (h:i<e.length) {st:List (Tr Tok)} (h1:run [] (e.take i)=some st) (h2:stp st (nth e (i:Int))=none):run [] e=none:=by
 have:run [] (e.take (i+1))=none:=by rw[Cz h,xG,h1];exact h2
 rw[<-List.take_append_drop (i+1) e,Gg,this];rfl
theorem T0 {e:List Tok} (he:e.length<=1048576):uo e=some (isX e):=by
 obtain ⟨o,eo,hq⟩:=cR (f:=rf e) (fun i s=> ∃st,s=((st.length:Int),(i:Int))/\run [] (e.take i)=some st) (fun o=>(o= .ret false/\run [] e=none)\/ ∃st,o= .brk ((st.length:Int),(e.length:Int))/\run [] e=some st) e.length (s:=(0,0)) (by
  rintro i s hi ⟨st,rfl,hst⟩
  have hl:=QQ hst
  simp only[aE,aA] at hl
  unfold rf
  simp only[dM]
  by_cases c:i<e.length
  ·rw[if_pos (by simp;omega),aI (by omega) (by omega)];simp only[aa]
   rw[abG];simp only[aa]
   have hr:=xF (nth e (i:Int))
   by_cases c1:ar (nth e (i:Int))<0
   ·refine .inr ⟨_,by rw[if_pos (by simpa using c1)],(fun s' e=>by cases e),.inl ⟨rfl,AH c hst ?_⟩⟩
    rw[stp,if_pos (.inl c1)]
   ·rw[if_neg (by simpa using c1)]
    by_cases c2:ar (nth e (i:Int))>(st.length:Int)
    ·refine .inr ⟨_,by rw[if_pos (by simpa using c2)],(fun s' e=>by cases e),.inl ⟨rfl,AH c hst ?_⟩⟩
     rw[stp,if_pos (.inr c2)]
    ·rw[if_neg (by simpa using c2)]
     refine .inl ⟨c,_,rfl,st.take (st.length - (ar (nth e (i:Int))).toNat)++ [.node (nth e (i:Int)) (st.drop (st.length - (ar (nth e (i:Int))).toNat))],?_,?_⟩
     ·rw[fy (n:=(st.length:Int) - ar (nth e (i:Int))) (by omega) (by omega),fy (by omega) (by omega),af (by omega)]
      congr 1
      simp only[aw,aA,al,aE]
      omega
     ·rw[Cz c,xG,hst]
      show stp st _=_
      rw[stp,if_neg (by omega)]
  ·obtain rfl:i=e.length:=by omega
   rw[List.take_of_length_le (by omega)] at hst
   exact .inr ⟨_,by rw[if_neg (by simp)],(fun s' e=>by cases e),.inr ⟨st,rfl,hst⟩⟩) ⟨[],rfl,rfl⟩ (vx (by omega))
 unfold uo
 rcases hq with ⟨rfl,h⟩ | ⟨st,rfl,h⟩
 ·rw[cr eo];unfold isX;rw[h]
 ·rw[ay eo];unfold isX;rw[h]
  match st with
  | [] =>rfl
  | [_] =>rfl
  | _::_::_=>simp;omega
theorem aaR {t:Tok} (h:0<=ar t):(Option.bind ((if t.1==4 then (some (t.1==4)) else (some (t.1==5)):Option Bool)) (fun s3=>if s3 then (some 2) else (Option.bind ((if t.1==6 then (some (t.1==6)) else (some (t.1==7)):Option Bool)) (fun s4=>if s4 then (some 1) else (some 0)))):Option Int)=some (ar t):=by
 rcases pe h with ⟨e,k | k⟩ | ⟨e,k | k⟩ | ⟨e,k | k | k⟩ <;> rw[e] <;> simp[k]
theorem XG (t:Tok): ∃n:Int,(Option.bind ((if t.1==4 then (some (t.1==4)) else (some (t.1==5)):Option Bool)) (fun s3=>if s3 then (some 2) else (Option.bind ((if t.1==6 then (some (t.1==6)) else (some (t.1==7)):Option Bool)) (fun s4=>if s4 then (some 1) else (some 0)))):Option Int)=some n:=by
 by_cases h4:t.1=4
 ·exact ⟨2,by simp[h4]⟩
 by_cases h5:t.1=5
 ·exact ⟨2,by simp[h5]⟩
 by_cases h6:t.1=6
 ·exact ⟨1,by simp[h6]⟩
 by_cases h7:t.1=7
 ·exact ⟨1,by simp[h7]⟩
 exact ⟨0,by simp[h4,h5,h6,h7]⟩
def Ak (e:List Tok):Tr Tok:=match run [] e with
 | some [x] =>x
 | _=>.nil
theorem Gh {e:List Tok} (he:e.length<=1048576):od e=some (Ak e):=by
 obtain ⟨o,eo,hq⟩:=cR (f:=rb e) (fun i s=> ∃st,s=(st,(i:Int))/\run [] (e.take i)=some st) (fun o=>(o= .ret Tr.nil/\run [] e=none)\/ ∃st,o= .brk (st,(e.length:Int))/\run [] e=some st) e.length (s:=([],0)) (by
  rintro i s hi ⟨st,rfl,hst⟩
  have hl:=QQ hst
  simp only[aE,aA] at hl
  unfold rb
  simp only[dM]
  by_cases c:i<e.length
  ·rw[if_pos (by simp;omega),aI (by omega) (by omega)];simp only[aa]
   have hr:=xF (nth e (i:Int))
   by_cases c1:ar (nth e (i:Int))<0
   ·obtain ⟨n,hn⟩:=XG (nth e (i:Int))
    rw[hn];simp only[aa]
    rw[Zj];simp only[aa]
    refine .inr ⟨_,by rw[if_neg (by simp;omega)],(fun s' e=>by cases e),.inl ⟨rfl,AH c hst ?_⟩⟩
    rw[stp,if_pos (.inl c1)]
   ·rw[aaR (by omega)];simp only[aa]
    rw[Zj];simp only[aa]
    rw[if_pos (by simp;omega),fy (n:=(st.length:Int) - ar (nth e (i:Int))) (by omega) (by omega)]
    by_cases c2:ar (nth e (i:Int))>(st.length:Int)
    ·refine .inr ⟨_,by rw[if_pos (by simp;omega)],(fun s' e=>by cases e),.inl ⟨rfl,AH c hst ?_⟩⟩
     rw[stp,if_pos (.inr c2)]
    ·rw[if_neg (by simp;omega),show∀p:Prop,∀ [Decidable p],p->chk p=some () from fun p _ hp=>by unfold chk;rw[if_pos hp]]
     ·simp only[aa]
      have e1:((st.length:Int) - ar (nth e (i:Int))).toNat=st.length - (ar (nth e (i:Int))).toNat:=by omega
      rw[e1,aK (by simp;omega)];simp only[aa]
      rw[aK (by simp;omega)];simp only[aa,List.nil_append,af (show i<9223372036854775807 by omega)]
      refine .inl ⟨c,_,rfl,_,rfl,?_⟩
      rw[Cz c,xG,hst]
      show stp st _=_
      rw[stp,if_neg (by omega)]
     ·omega
  ·obtain rfl:i=e.length:=by omega
   rw[List.take_of_length_le (by omega)] at hst
   exact .inr ⟨_,by rw[if_neg (by simp)],(fun s' e=>by cases e),.inr ⟨st,rfl,hst⟩⟩) ⟨[],rfl,rfl⟩ (vx (by omega))
 unfold od
 rcases hq with ⟨rfl,h⟩ | ⟨st,rfl,h⟩
 ·rw[cr eo];unfold Ak;rw[h]
 ·rw[ay eo];unfold Ak;rw[h]
  match st with
  | [] =>rfl
  | [x] =>rfl
  | _::_::_ =>
   simp only
   rw[if_pos (by simp;omega)]
theorem yQ {x:Tr Tok} (h:WT x):Ak (flat x)=x:=by unfold Ak;rw[TY h];rfl
theorem T1 {e:List Tok} (he:e.length<=1048576):uk e=some (isX e):=by
 unfold uk
 rw[Gh he];simp only[aa]
 congr 1
 by_cases h:isX e=true
 ·rw[h]
  obtain ⟨x,h1,h2,h3⟩:=QP h
  have:Ak e=x:=by unfold Ak;rw[h1]
  rw[this]
  cases h2 with
  | node _ _=>rfl
 ·have:Ak e= .nil:=by
   unfold Ak
   unfold isX at h
   split
   ·rename_i x hx;rw[hx] at h;exact absurd rfl h
   ·rfl
  rw[this,Bool.eq_false_iff.2 h];rfl
theorem JZ {e:List Tok} (he:e.length<=1048576):ld e=some (decide (e.length<=24)&&isX e):=by
 unfold ld
 rw[T0 he]
 by_cases c:e.length<=24
 ·rw[if_pos (by simp;omega)];simp[c]
 ·rw[if_neg (by simp;omega)];simp[c]
theorem J4 {e:List Tok} (he:e.length<=1048576):kY e=some (decide (e.length<=24)&&isX e):=by
 unfold kY
 rw[T1 he]
 by_cases c:e.length<=24
 ·rw[if_pos (by simp;omega)];simp[c]
 ·rw[if_neg (by simp;omega)];simp[c]
theorem chk_of {p:Prop} [Decidable p] (h:p):chk p=some ():=by unfold chk;rw[if_pos h]
theorem XH {A:List Tok} {x:Tr Tok} (hx:WT x) (hl:(A++flat x).length<=1000000):iN (A++flat x)=some (A.length:Int):=by
 obtain ⟨s',e,ks,q1,q2,q3⟩: ∃s',ax (mr (A++flat x)) aT (1,((A++flat x).length:Int))=some (.brk s')/\ ∃ks:List (Tr Tok),ks= [] /\s'.2=(A.length:Int)/\True:=by
  obtain ⟨o,eo,hq⟩:=cR (f:=mr (A++flat x)) (fun i s=> ∃ks:List (Tr Tok),(∀k,k∈ks->WT k)/\s=((ks.length:Int),(((A++ky ks).length:Nat):Int))/\i+(ky ks).length=(flat x).length/\(A++flat x).take (A++ky ks).length=A++ky ks) (fun o=> ∃s',o= .brk s'/\s'.2=(A.length:Int)) (flat x).length (s:=(1,((A++flat x).length:Int))) (by
   rintro i s hi ⟨ks,hw,rfl,hlen,htk⟩
   unfold mr
   simp only[dM]
   rcases List.eq_nil_or_concat ks with rfl | ⟨ks',y,rfl⟩
   ·refine .inr ⟨_,by rw[if_neg (by simp)],(fun s' e=>by cases e),_,rfl,?_⟩
    simp[ky]
   ·have hy:=hw y (by simp)
    cases hy with
    | @node t cs h1 h2 =>
     have hfl:ky (ks'++ [.node t cs])=ky (ks'++cs)++ [t]:=by rw[qR,ni,flat,qR,ai]
     rw[List.concat_eq_append,hfl] at hlen htk⊢
     simp only[aw,al,aE] at hlen htk hl⊢
     rw[if_pos (by simp <;> omega)]
     have hpos:i64.wrap (((A.length+((ky (ks'++cs)).length+1):Nat):Int) - 1)=((A.length+(ky (ks'++cs)).length:Nat):Int):=by
      rw[fy (by omega) (by omega)];omega
     have hget:nth (A++flat x) ((A.length+(ky (ks'++cs)).length:Nat):Int)=t:=by
      have hlt:A.length+(ky (ks'++cs)).length<(A++flat x).length:=by rw[aw];omega
      have e1:=congrArg (fun l:List Tok=>l[A.length+(ky (ks'++cs)).length]?) htk
      rw[List.getElem?_take_of_lt (by omega),List.getElem?_eq_getElem hlt,<-ai,List.getElem?_append_right (by rw[aw];omega),aw] at e1
      rw[bJ hlt]
      simpa using e1
     rw[hpos,aI (by omega) (by simp only[aw];omega),hget];simp only[aa]
     rw[abG,h1];simp only[aa]
     have hcl:(cs.length:Int)<=2:=by rw[<-h1];exact (xF t).2
     have hkl:ks'.length<=(ky (ks'++cs)).length+1000000:=by
      have: ∀l:List (Tr Tok),(∀k,k∈l->WT k)->l.length<=(ky l).length:=by
       intro l
       induction l with
       | nil=>intro _;simp
       | cons k l ih =>
        intro h
        have h1:=(h k (by simp)).pos
        have h2:=ih fun k hk=>h k (by simp[hk])
        rw[ky];simp only[al,aw];omega
      have:=this ks' fun k hk=>hw k (by simp[hk])
      rw[qR,aw];omega
     refine .inl ⟨by omega,_,rfl,ks'++cs,fun k hk=>?_,?_,by omega,?_⟩
     ·rcases aF hk with hk | hk
      ·exact hw k (by simp[hk])
      ·exact h2 k hk
     ·rw[fy (n:=((ks'.length+1:Nat):Int) - 1) (by omega) (by omega),fy (by omega) (by omega)]
      congr 1
      (simp only[aw]) <;> omega
     ·have e1:=congrArg (List.take (A++ky (ks'++cs)).length) htk
      rw[List.take_take,Nat.min_eq_left (by rw[aw];omega),<-ai,List.take_left] at e1
      rw[aw] at e1
      exact e1) ⟨[x],fun k hk=>by (obtain rfl:=aq hk;exact hx),by rw[ni];rfl,by rw[ni];omega,by rw[ni,List.take_length]⟩ (vx (by rw[aw] at hl;omega))
  obtain ⟨s',rfl,h2⟩:=hq
  exact ⟨s',eo,[],rfl,h2,trivial⟩
 unfold iN
 rw[ay e,q2]
end D
namespace D
open Go.RowKit
instance trInh {α:Type} :Inhabited (Tr α):=⟨.nil⟩
def szX:Tr Tok->Int
 | .nil=>0
 | .node t ks=>min (szL t 1 ks) 100000
where szL (t:Tok) (acc:Int):List (Tr Tok)->Int
 | [] =>acc
 | k::ks=>szL t (acc+(if t.1=7 then (szX k+3)*t.2.2.2 else szX k)) ks
theorem fq {x:Tr Tok} (h:WT x):1<=szX x/\szX x<=100000:=by
 refine WT.ind (p:=fun x=>1<=szX x/\szX x<=100000) ?_ ?_ ?_ h
 ·intro t _
  show 1<=min (1:Int) 100000/\min (1:Int) 100000<=100000
  omega
 ·intro t a e _ ih
  show 1<=min ((1:Int)+(if t.1=7 then (szX a+3)*t.2.2.2 else szX a)) 100000/\min ((1:Int)+(if t.1=7 then (szX a+3)*t.2.2.2 else szX a)) 100000<=100000
  split
  ·rename_i k
   have hr:=Cy (show 0<=ar t by omega) k
   have:0<=(szX a+3)*t.2.2.2:=Int.mul_nonneg (by omega) (by omega)
   omega
  ·omega
 ·intro t a b e _ _ iha ihb
  have k:t.1≠7:=by
   rcases pe (show 0<=ar t by omega) with ⟨_,k⟩ | ⟨k,_⟩ | ⟨k,_⟩ <;> omega
  show 1<=min ((1:Int)+(if t.1=7 then (szX a+3)*t.2.2.2 else szX a)+(if t.1=7 then (szX b+3)*t.2.2.2 else szX b)) 100000/\min ((1:Int)+(if t.1=7 then (szX a+3)*t.2.2.2 else szX a)+(if t.1=7 then (szX b+3)*t.2.2.2 else szX b)) 100000<=100000
  rw[if_neg k,if_neg k]
  omega
theorem Iq {a h:Int} (h1:1<=a/\a<=100000) (h2:1<=h/\h<=3):i64.wrap ((i64.wrap (a+3))*h)=(a+3)*h:=by
 rw[fy (n:=a+3) (by omega) (by omega)]
 have k1:0<=(a+3)*h:=Int.mul_nonneg (by omega) (by omega)
 have k2:(a+3)*h<=100003*3:=Int.mul_le_mul (by omega) (by omega) (by omega) (by omega)
 exact fy (by omega) (by omega)
theorem QR {a h:Int} (h1:1<=a/\a<=100000) (h2:1<=h/\h<=3):0<=(a+3)*h/\(a+3)*h<=300009:=by
 have k1:0<=(a+3)*h:=Int.mul_nonneg (by omega) (by omega)
 have k2:(a+3)*h<=100003*3:=Int.mul_le_mul (by omega) (by omega) (by omega) (by omega)
 omega
theorem qS {t:Tok} {ks:List (Tr Tok)} :Tr.get (.node t ks)=some (t,ks):=rfl
theorem yR {f:Tr Tok->Option Int} {t:Tok} {ks:List (Tr Tok)} {i:Nat} {acc:Int} (hi:i<ks.length) (hf:f (nth ks (i:Int))=some (szX (nth ks (i:Int)))) (hw:WT (nth ks (i:Int))) (ht:0<=ar t) (ha:0<=acc/\acc<=1000000) (hik:i<=1000000) :
  bM f (.node t ks) (t,ks) (acc,(i:Int))=some (.nxt (acc+(if t.1=7 then (szX (nth ks (i:Int))+3)*t.2.2.2 else szX (nth ks (i:Int))),((i+1:Nat):Int))):=by
 unfold bM
 simp only[qS]
 have hr:=fq hw
 rw[if_pos (by simp <;> omega),aI (by omega) (by omega)];simp only[aa]
 by_cases k:t.1=7
 ·have h7:=Cy ht k
  have hm:=QR hr h7.2
  rw[if_pos (by simpa using k),if_pos k,hf];simp only[aa]
  rw[Iq hr h7.2,fy (by omega) (by omega),af (by omega)]
 ·rw[if_neg (by simpa using k),if_neg k,hf];simp only[aa]
  rw[fy (by omega) (by omega),af (by omega)]
theorem AI {α:Type} [Inhabited α] {a:α} {l:List α} :nth (a::l) ((0:Nat):Int)=a:=rfl
theorem QS {α:Type} [Inhabited α] {a b:α} {l:List α} :nth (a::b::l) ((1:Nat):Int)=b:=rfl
theorem XI {x:Tr Tok} (h:WT x): ∀n,(flat x).length<=n->bW n x=some (szX x):=by
 refine WT.ind (p:=fun x=> ∀n,(flat x).length<=n->bW n x=some (szX x)) ?_ ?_ ?_ h
 ·intro t e n hn
  rw[DA] at hn
  match n,hn with
  | n+1,_ =>
   rw[bW];simp only[qS,aa]
   have hL:ax (bM (bW n) (.node t []) (t,[])) aT (1,0)=some (.brk (1,0)):=bp (f:=bM (bW n) (.node t []) (t,[])) (fun i=>(1,(i:Int))) 0 (fun i hi=>by omega) (by unfold bM;simp) (by unfold aT;omega)
   rw[ay hL]
   all_goals rfl
 ·intro t a e wa ih n hn
  rw[Gf,aw] at hn
  match n,hn with
  | n+1,hn =>
   have hr:=fq wa
   rw[bW];simp only[qS,aa]
   have hL:ax (bM (bW n) (.node t [a]) (t,[a])) aT (1,0)=some (.brk (szX.szL t 1 [a],1)):=bp (f:=bM (bW n) (.node t [a]) (t,[a])) (fun i=>(szX.szL t 1 ([a].take i),(i:Int))) 1 (fun i hi=>by
    obtain rfl:i=0:=by omega
    exact yR (acc:=1) (i:=0) (by simp) (ih n (by simp at hn;omega)) wa (by omega) (by omega) (by omega)) (by unfold bM;simp) (by unfold aT;omega)
   rw[ay hL]
   all_goals rfl
 ·intro t a b e wa wb iha ihb n hn
  rw[wu,aw,aw] at hn
  match n,hn with
  | n+1,hn =>
   have hra:=fq wa
   have hrb:=fq wb
   have k:t.1≠7:=by
    rcases pe (show 0<=ar t by omega) with ⟨_,k⟩ | ⟨k,_⟩ | ⟨k,_⟩ <;> omega
   rw[bW];simp only[qS,aa]
   have hL:ax (bM (bW n) (.node t [a,b]) (t,[a,b])) aT (1,0)=some (.brk (szX.szL t 1 [a,b],2)):=bp (f:=bM (bW n) (.node t [a,b]) (t,[a,b])) (fun i=>(szX.szL t 1 ([a,b].take i),(i:Int))) 2 (fun i hi=>by
    have:i=0\/i=1:=by omega
    rcases this with rfl | rfl
    ·exact yR (acc:=1) (i:=0) (by simp) (iha n (by simp at hn;omega)) wa (by omega) (by omega) (by omega)
    ·exact yR (acc:=1+(if t.1=7 then (szX a+3)*t.2.2.2 else szX a)) (i:=1) (by simp) (ihb n (by simp at hn;omega)) wb (by omega) (by rw[if_neg k];omega) (by omega)) (by unfold bM;simp) (by unfold aT;omega)
   rw[ay hL]
   all_goals rfl
theorem n9 {A:List Tok} {t:Tok} (h:A.length<=1000000):aQ (A++ [t]) (i64.wrap (((A++ [t]).length:Int) - 1))=some t/\i64.wrap (((A++ [t]).length:Int) - 1)=(A.length:Int):=by
 have e:i64.wrap (((A++ [t]).length:Int) - 1)=(A.length:Int):=by
  rw[fy (by simp only[aw,al,aE];omega) (by simp only[aw,al,aE];omega)]
  simp only[aw,al,aE];omega
 refine ⟨?_,e⟩
 rw[e,aI (by omega) (by simp only[aw,al,aE];omega),bJ (by simp)]
 simp
theorem abH {t:Tok} (h:ar t=2):(if t.1==4 then (some (t.1==4)) else (some (t.1==5)):Option Bool)=some true:=by
 rcases pe (show 0<=ar t by omega) with ⟨_,k | k⟩ | ⟨e,_⟩ | ⟨e,_⟩
 ·simp[k]
 ·simp[k]
 ·omega
 ·omega
theorem T2 {t:Tok} (h:ar t=1\/ar t=0):(if t.1==4 then (some (t.1==4)) else (some (t.1==5)):Option Bool)=some false:=by
 rcases pe (show 0<=ar t by omega) with ⟨e,k⟩ | ⟨e,k | k⟩ | ⟨e,k | k | k⟩
 ·omega
 all_goals simp[k]
theorem Zk {t:Tok} (h:ar t=0):(t.1==6)=false/\(t.1==7)=false:=by
 rcases pe (show 0<=ar t by omega) with ⟨e,k⟩ | ⟨e,k | k⟩ | ⟨e,k | k | k⟩
 ·omega
 ·omega
 ·omega
 all_goals simp[k]
theorem T3 {t:Tok} (h:ar t=1):((t.1==6)=true/\t.1=6)\/((t.1==6)=false/\(t.1==7)=true/\t.1=7):=by
 rcases pe (show 0<=ar t by omega) with ⟨e,k⟩ | ⟨e,k | k⟩ | ⟨e,k | k | k⟩
 ·omega
 ·left;simp[k]
 ·right;simp[k]
 all_goals omega
theorem CA {a b:Tr Tok} {t:Tok} (wb:WT b) (hl:((flat a++flat b)++ [t]).length<=1000000) :
  (((flat a++flat b)++ [t]).take ((((flat a++flat b).length:Nat):Int)).toNat)=flat a++flat b /\
  iN (flat a++flat b)=some (((flat a).length:Nat):Int) /\
  (((flat a++flat b)++ [t]).take ((((flat a).length:Nat):Int)).toNat)=flat a /\
  (flat a++flat b).drop ((((flat a).length:Nat):Int)).toNat=flat b:=by
 refine ⟨?_,XH wb (by simp only[aw,al,aE] at hl⊢;omega),?_,?_⟩
 ·rw[Int.toNat_natCast,List.take_left]
 ·rw[Int.toNat_natCast,ai,List.take_left]
 ·rw[Int.toNat_natCast,List.drop_left]
theorem Zl {x:Tr Tok} (h:WT x): ∀n,(flat x).length<=n->(flat x).length<=1000000->eJ n (flat x)=some (szX x):=by
 refine WT.ind (p:=fun x=> ∀n,(flat x).length<=n->(flat x).length<=1000000->eJ n (flat x)=some (szX x)) ?_ ?_ ?_ h
 ·intro t e n hn hl
  rw[DA] at hn hl⊢
  match n,hn with
  | n+1,_ =>
   have hk:=Zk e
   rw[eJ]
   have:=(n9 (A:=[]) (t:=t) (by simp)).1
   rw[List.nil_append] at this
   rw[this];simp only[aa]
   rw[T2 (.inr e)];simp only[aa,hk.1,hk.2,Bool.false_eq_true,if_false]
   rfl
 ·intro t a e wa ih n hn hl
  rw[Gf] at hn hl⊢
  simp only[aw,al,aE] at hn hl
  match n,hn with
  | n+1,hn =>
   have hr:=fq wa
   rw[eJ]
   obtain ⟨l1,l2⟩:=n9 (A:=flat a) (t:=t) (by omega)
   rw[l1];simp only[aa]
   rw[T2 (.inl e)];simp only[aa,Bool.false_eq_true,if_false]
   rw[l2,Int.toNat_natCast,List.take_left,chk_of (by simp only[aw,al,aE];omega)];simp only[aa]
   rw[ih n (by omega) (by omega)];simp only[aa]
   rcases T3 e with ⟨k1,k2⟩ | ⟨k1,k2,k3⟩
   ·rw[if_pos k1,fy (by omega) (by omega)]
    show some (min 100000 (szX a+1))=some (min ((1:Int)+(if t.1=7 then (szX a+3)*t.2.2.2 else szX a)) 100000)
    rw[if_neg (by omega)]
    congr 1;omega
   ·have h7:=Cy (show 0<=ar t by omega) k3
    have hm:=QR hr h7.2
    rw[if_neg (by simp[k1]),if_pos k2,Iq hr h7.2,fy (by omega) (by omega)]
    show some (min 100000 ((szX a+3)*t.2.2.2+1))=some (min ((1:Int)+(if t.1=7 then (szX a+3)*t.2.2.2 else szX a)) 100000)
    rw[if_pos k3]
    congr 1;omega
 ·intro t a b e wa wb iha ihb n hn hl
  rw[wu] at hn hl⊢
  obtain ⟨p1,p2,p3,p4⟩:=CA (a:=a) (t:=t) wb hl
  simp only[aw,al,aE] at hn hl
  match n,hn with
  | n+1,hn =>
   have hra:=fq wa
   have hrb:=fq wb
   have k:t.1≠7:=by
    rcases pe (show 0<=ar t by omega) with ⟨_,k⟩ | ⟨k,_⟩ | ⟨k,_⟩ <;> omega
   rw[eJ]
   obtain ⟨l1,l2⟩:=n9 (A:=flat a++flat b) (t:=t) (by rw[aw];omega)
   rw[l1];simp only[aa]
   rw[abH e];simp only[aa,if_true]
   rw[l2,p1,p2,chk_of (by simp only[aw,al,aE];omega)];simp only[aa]
   rw[chk_of (by simp only[aw,al,aE];omega),p3,p4];simp only[aa]
   rw[iha n (by omega) (by omega),chk_of (by simp only[aw,al,aE];omega)];simp only[aa]
   rw[ihb n (by have:=wa.pos;omega) (by omega)];simp only[aa]
   rw[fy (n:=szX a+szX b) (by omega) (by omega),fy (by omega) (by omega)]
   show some (min 100000 (szX a+szX b+1))=some (min ((1:Int)+(if t.1=7 then (szX a+3)*t.2.2.2 else szX a)+(if t.1=7 then (szX b+3)*t.2.2.2 else szX b)) 100000)
   rw[if_neg k,if_neg k]
   congr 1;omega
def T4:Tr Tok:=.node (2,0,0,0) []
def J5 (x:Tr Tok):Nat->Int->Tr Tok
 | 0,_=>T4
 | h+1,low=>if 0<low then .node (4,0,0,0) [x,J5 x h (max 0 (low - 1))] else .node (5,0,0,0) [.node (4,0,0,0) [x,J5 x h (max 0 (low - 1))],T4]
mutual
def sA:Tr Tok->Tr Tok
 | .nil=>.nil
 | .node t ks=>if t.1=7 then J5 ((Rp ks).headD .nil) t.2.2.2.toNat t.2.2.1 else .node t (Rp ks)
def Rp:List (Tr Tok)->List (Tr Tok)
 | [] =>[]
 | k::ks=>sA k::Rp ks
end
theorem ar4:ar (4,0,0,0)=2:=by decide
theorem ar5:ar (5,0,0,0)=2:=by decide
theorem ar2:ar (2,0,0,0)=0:=by decide
theorem QU:WT T4:=.node ar2 fun k hk=>by cases hk
theorem xH:flat T4= [(2,0,0,0)]:=DA _
theorem WT.two {t:Tok} {a b:Tr Tok} (h:ar t=2) (ha:WT a) (hb:WT b):WT (.node t [a,b]):=.node h fun k hk=>by
 rcases aB hk with rfl | hk
 ·exact ha
 ·obtain rfl:=aq hk
  exact hb
theorem WT.one {t:Tok} {a:Tr Tok} (h:ar t=1) (ha:WT a):WT (.node t [a]):=.node h fun k hk=>by
 obtain rfl:=aq hk
 exact ha
theorem J6 {x:Tr Tok} (hx:WT x): ∀(h:Nat) (low:Int),WT (J5 x h low)
 | 0,_=>QU
 | h+1,low=>by
  rw[J5]
  split
  ·exact .two ar4 hx (J6 hx h _)
  ·exact .two ar5 (.two ar4 hx (J6 hx h _)) QU
theorem Gi (x:Tr Tok): ∀(h:Nat) (low:Int),(flat (J5 x h low)).length<=((flat x).length+3)*h+1
 | 0,_=>by rw[J5,xH];simp
 | h+1,low=>by
  have ih:=Gi x h (max 0 (low - 1))
  rw[J5]
  split
  ·rw[wu];simp only[aw,al,aE]
   rw[Nat.mul_succ];omega
  ·rw[wu,wu,xH];simp only[aw,al,aE]
   rw[Nat.mul_succ];omega
theorem aac {t:Tok} {a:Tr Tok} :sA (.node t [a])=if t.1=7 then J5 (sA a) t.2.2.2.toNat t.2.2.1 else .node t [sA a]:=by rw[sA,Rp,Rp];rfl
theorem exp2 {t:Tok} {a b:Tr Tok} (h:t.1≠7):sA (.node t [a,b])= .node t [sA a,sA b]:=by rw[sA,if_neg h,Rp,Rp,Rp]
theorem aad {t:Tok} (h:t.1≠7):sA (.node t [])= .node t []:=by rw[sA,if_neg h,Rp]
theorem no7 {t:Tok} (h:ar t=2\/ar t=0):t.1≠7:=by
 rcases pe (show 0<=ar t by omega) with ⟨_,k⟩ | ⟨k,_⟩ | ⟨_,k⟩ <;> omega
theorem Vn {x:Tr Tok} (h:WT x):WT (sA x):=by
 refine WT.ind (p:=fun x=>WT (sA x)) ?_ ?_ ?_ h
 ·intro t e
  rw[aad (no7 (.inr e))]
  exact .node e fun k hk=>by cases hk
 ·intro t a e _ ih
  rw[aac]
  split
  ·exact J6 ih _ _
  ·exact .one e ih
 ·intro t a b e _ _ iha ihb
  rw[exp2 (no7 (.inl e))]
  exact .two e iha ihb
theorem Gj {x:Tr Tok} (h:WT x):szX x<100000->((flat (sA x)).length:Int)<=szX x:=by
 refine WT.ind (p:=fun x=>szX x<100000->((flat (sA x)).length:Int)<=szX x) ?_ ?_ ?_ h
 ·intro t e _
  rw[aad (no7 (.inr e)),DA]
  show (1:Int)<=min 1 100000
  omega
 ·intro t a e wa ih hs
  have hr:=fq wa
  have hs':min ((1:Int)+(if t.1=7 then (szX a+3)*t.2.2.2 else szX a)) 100000<100000:=hs
  show _<=min ((1:Int)+(if t.1=7 then (szX a+3)*t.2.2.2 else szX a)) 100000
  rw[aac]
  by_cases k:t.1=7
  ·rw[if_pos k] at hs'⊢
   rw[if_pos k]
   have h7:=Cy (show 0<=ar t by omega) k
   have hge:szX a+3<=(szX a+3)*t.2.2.2:=by
    have:=Int.mul_le_mul_of_nonneg_left (c:=szX a+3) h7.2.1 (by omega)
    omega
   have h1:=ih (by omega)
   have h2:=Gi (sA a) t.2.2.2.toNat t.2.2.1
   have h3:(((flat (sA a)).length+3)*t.2.2.2.toNat:Int)<=(szX a+3)*t.2.2.2:=by
    rw[Int.toNat_of_nonneg (by omega)]
    exact Int.mul_le_mul_of_nonneg_right (by omega) (by omega)
   have h4:((flat (J5 (sA a) t.2.2.2.toNat t.2.2.1)).length:Int)<=(((flat (sA a)).length+3)*t.2.2.2.toNat:Int)+1:=by exact_mod_cast h2
   omega
  ·rw[if_neg k] at hs'⊢
   rw[if_neg k,Gf]
   have h1:=ih (by omega)
   simp only[aw,al,aE]
   omega
 ·intro t a b e wa wb iha ihb hs
  have hra:=fq wa
  have hrb:=fq wb
  have k:=no7 (.inl e)
  have hs':min ((1:Int)+(if t.1=7 then (szX a+3)*t.2.2.2 else szX a)+(if t.1=7 then (szX b+3)*t.2.2.2 else szX b)) 100000<100000:=hs
  show _<=min ((1:Int)+(if t.1=7 then (szX a+3)*t.2.2.2 else szX a)+(if t.1=7 then (szX b+3)*t.2.2.2 else szX b)) 100000
  rw[if_neg k,if_neg k] at hs'⊢
  rw[exp2 k,wu]
  have h1:=iha (by omega)
  have h2:=ihb (by omega)
  simp only[aw,al,aE]
  omega
theorem En {x:Tr Tok} : ∀(h n:Nat) (low:Int),h<n->h<=3->0<=low->low<=3->kB n x low (h:Int)=some (J5 x h low)
 | 0,n+1,low,_,_,_,_=>by
  rw[kB,if_pos (by rfl)];rfl
 | h+1,n+1,low,h1,h2,h3,h4=>by
  rw[kB,if_neg (by simp;omega),fy (n:=low - 1) (by omega) (by omega),fy (n:=((h+1:Nat):Int) - 1) (by omega) (by omega)]
  rw[show ((h+1:Nat):Int) - 1=(h:Int) from by omega,En h n (max 0 (low - 1)) (by omega) (by omega) (by omega) (by omega)];simp only[aa]
  rw[J5]
  by_cases c:0<low
  ·rw[if_pos (by simpa using c),if_pos c]
  ·rw[if_neg (by simpa using c),if_neg c];rfl
theorem LG {a b:List Tok} {t:Tok} (h:a.length+b.length<=1000000):lV a b t=some ((a++b)++ [t]):=by
 unfold lV hY
 rw[aK (by simp only[aw,al,aE];omega)];simp only[aa,List.nil_append]
 rw[aK (by omega)];simp only[aa]
 rw[aK (by simp only[aw,al,aE];omega)];rfl
theorem QV {x:Tr Tok} : ∀(h n:Nat) (low:Int),h<n->h<=3->0<=low->low<=3->(flat x).length<=100000->kD n (flat x) low (h:Int)=some (flat (J5 x h low))
 | 0,n+1,low,_,_,_,_,_=>by
  rw[kD,if_pos (by rfl),J5,xH];rfl
 | h+1,n+1,low,h1,h2,h3,h4,h5=>by
  rw[kD,if_neg (by simp;omega),fy (n:=low - 1) (by omega) (by omega),fy (n:=((h+1:Nat):Int) - 1) (by omega) (by omega)]
  rw[show ((h+1:Nat):Int) - 1=(h:Int) from by omega,QV h n (max 0 (low - 1)) (by omega) (by omega) (by omega) (by omega) h5];simp only[aa]
  have hl:=Gi x h (max 0 (low - 1))
  have hl3:((flat x).length+3)*h<=100003*3:=Nat.mul_le_mul (by omega) (by omega)
  rw[LG (by omega),J5];simp only[aa]
  by_cases c:0<low
  ·rw[if_pos (by simpa using c),if_pos c,wu]
  ·rw[if_neg (by simpa using c),if_neg c,wu,wu,xH]
   show (ql 2).bind _=_
   unfold ql;simp only[aa]
   rw[LG (by simp only[aw,al,aE];omega)];rfl
theorem xI:1000000000000<=gR:=by rw[RE];unfold aT;omega
theorem T5 {x:Tr Tok} (h:WT x): ∀n,(flat x).length<=n->bG n x=some (sA x):=by
 have hF:=xI
 refine WT.ind (p:=fun x=> ∀n,(flat x).length<=n->bG n x=some (sA x)) ?_ ?_ ?_ h
 ·intro t e n hn
  rw[DA] at hn
  have k:=no7 (.inr e)
  match n,hn with
  | n+1,_ =>
   rw[bG];simp only[qS,aa]
   rw[if_neg (by simpa using k),aad k]
   have hL:ax (bt (bG n) (t,[])) aT (0,t.1,t.2.1,t.2.2.1,t.2.2.2,[])=some (.brk (0,t.1,t.2.1,t.2.2.1,t.2.2.2,[])):=bp (f:=bt (bG n) (t,[])) (fun i=>((i:Int),t.1,t.2.1,t.2.2.1,t.2.2.2,Rp (([] :List (Tr Tok)).take i))) 0 (fun i hi=>by omega) (by unfold bt;simp) (by unfold aT;omega)
   rw[ay hL]
   all_goals rfl
 ·intro t a e wa ih n hn
  rw[Gf,aw] at hn
  match n,hn with
  | n+1,hn =>
   have ia:=ih n (by simp at hn;omega)
   rw[bG,aac];simp only[qS,aa]
   rcases T3 e with ⟨k1,k2⟩ | ⟨k1,k2,k3⟩
   ·rw[if_neg (by simp;omega),if_neg (by omega)]
    have hL:ax (bt (bG n) (t,[a])) aT (0,t.1,t.2.1,t.2.2.1,t.2.2.2,[])=some (.brk (1,t.1,t.2.1,t.2.2.1,t.2.2.2,[sA a])):=bp (f:=bt (bG n) (t,[a])) (fun i=>((i:Int),t.1,t.2.1,t.2.2.1,t.2.2.2,[sA a].take i)) 1 (fun i hi=>by
     obtain rfl:i=0:=by omega
     unfold bt
     simp only
     rw[if_pos (by simp),aI (by omega) (by simp),AI];simp only[aa]
     rw[ia];simp only[aa]
     rw[aK (by simp)];rfl) (by unfold bt;simp) (by unfold aT;omega)
    rw[ay hL]
    all_goals rfl
   ·have h7:=Cy (show 0<=ar t by omega) k3
    rw[if_pos k2,if_pos k3,show aQ [a] 0=some a from rfl];simp only[aa]
    rw[ia];simp only[aa]
    have:=En (x:=sA a) t.2.2.2.toNat gR t.2.2.1 (by omega) (by omega) (by omega) (by omega)
    rw[Int.toNat_of_nonneg (by omega)] at this
    rw[this];rfl
 ·intro t a b e wa wb iha ihb n hn
  rw[wu,aw,aw] at hn
  have k:=no7 (.inl e)
  match n,hn with
  | n+1,hn =>
   have ia:=iha n (by simp at hn;omega)
   have ib:=ihb n (by simp at hn;omega)
   rw[bG,exp2 k];simp only[qS,aa]
   rw[if_neg (by simpa using k)]
   have hL:ax (bt (bG n) (t,[a,b])) aT (0,t.1,t.2.1,t.2.2.1,t.2.2.2,[])=some (.brk (2,t.1,t.2.1,t.2.2.1,t.2.2.2,[sA a,sA b])):=bp (f:=bt (bG n) (t,[a,b])) (fun i=>((i:Int),t.1,t.2.1,t.2.2.1,t.2.2.2,[sA a,sA b].take i)) 2 (fun i hi=>by
    have:i=0\/i=1:=by omega
    rcases this with rfl | rfl
    ·unfold bt
     simp only
     rw[if_pos (by simp),aI (by omega) (by simp),AI];simp only[aa]
     rw[ia];simp only[aa]
     rw[aK (by simp)];rfl
    ·unfold bt
     simp only
     rw[if_pos (by simp),aI (by omega) (by simp),QS];simp only[aa]
     rw[ib];simp only[aa]
     rw[aK (by simp)];rfl) (by unfold bt;simp) (by unfold aT;omega)
   rw[ay hL]
   all_goals rfl
theorem QW {x:Tr Tok} (h:WT x): ∀n out,(flat x).length<=n->out.length+(flat x).length<=1000000->bD n x out=some (out++flat x):=by
 refine WT.ind (p:=fun x=> ∀n out,(flat x).length<=n->out.length+(flat x).length<=1000000->bD n x out=some (out++flat x)) ?_ ?_ ?_ h
 ·intro t e n out hn hl
  rw[DA] at hn hl⊢
  simp only[al,aE] at hl
  match n,hn with
  | n+1,_ =>
   rw[bD];simp only[qS,aa]
   have hL:ax (be (bD n) (t,[])) aT (0,out)=some (.brk (0,out)):=bp (f:=be (bD n) (t,[])) (fun i=>((i:Int),out)) 0 (fun i hi=>by omega) (by unfold be;simp) (by unfold aT;omega)
   rw[ay hL]
   simp only
   rw[aK (by simp;omega)];rfl
 ·intro t a e wa ih n out hn hl
  rw[Gf] at hn hl⊢
  simp only[aw,al,aE] at hn hl
  match n,hn with
  | n+1,hn =>
   rw[bD];simp only[qS,aa]
   have hL:ax (be (bD n) (t,[a])) aT (0,out)=some (.brk (1,out++flat a)):=bp (f:=be (bD n) (t,[a])) (fun i=>((i:Int),if i=0 then out else out++flat a)) 1 (fun i hi=>by
    obtain rfl:i=0:=by omega
    unfold be
    simp only
    rw[if_pos (by simp),aI (by omega) (by simp),AI];simp only[aa,if_true]
    rw[ih n _ (by omega) (by omega)];rfl) (by unfold be;simp) (by unfold aT;omega)
   rw[ay hL]
   simp only
   rw[aK (by simp;omega)];simp
 ·intro t a b e wa wb iha ihb n out hn hl
  rw[wu] at hn hl⊢
  simp only[aw,al,aE] at hn hl
  match n,hn with
  | n+1,hn =>
   rw[bD];simp only[qS,aa]
   have hL:ax (be (bD n) (t,[a,b])) aT (0,out)=some (.brk (2,(out++flat a)++flat b)):=bp (f:=be (bD n) (t,[a,b])) (fun i=>((i:Int),if i=0 then out else if i=1 then out++flat a else (out++flat a)++flat b)) 2 (fun i hi=>by
    have:i=0\/i=1:=by omega
    rcases this with rfl | rfl
    ·unfold be
     simp only
     rw[if_pos (by simp),aI (by omega) (by simp),AI];simp only[aa,if_true]
     rw[iha n _ (by omega) (by omega)];rfl
    ·unfold be
     simp only
     rw[if_pos (by simp),aI (by omega) (by simp),QS];simp only[aa,if_true]
     rw[ihb n _ (by omega) (by simp;omega)];rfl) (by unfold be;simp) (by unfold aT;omega)
   rw[ay hL]
   simp only
   rw[aK (by simp;omega)];simp
theorem T6 {x:Tr Tok} (h:WT x): ∀n,(flat x).length<=n->(flat x).length<=1000000->szX x<=50000->c7 n (flat x)=some (flat (sA x)):=by
 have hF:=xI
 refine WT.ind (p:=fun x=> ∀n,(flat x).length<=n->(flat x).length<=1000000->szX x<=50000->c7 n (flat x)=some (flat (sA x))) ?_ ?_ ?_ h
 ·intro t e n hn hl hs
  rw[DA] at hn hl⊢
  match n,hn with
  | n+1,_ =>
   have hk:=Zk e
   rw[c7]
   have:=(n9 (A:=[]) (t:=t) (by simp)).1
   rw[List.nil_append] at this
   rw[this];simp only[aa]
   rw[T2 (.inr e)];simp only[aa,hk.1,hk.2,Bool.false_eq_true,if_false]
   rw[aad (no7 (.inr e)),DA]
 ·intro t a e wa ih n hn hl hs
  have hs':min ((1:Int)+(if t.1=7 then (szX a+3)*t.2.2.2 else szX a)) 100000<=50000:=hs
  rw[Gf] at hn hl⊢
  simp only[aw,al,aE] at hn hl
  match n,hn with
  | n+1,hn =>
   have hr:=fq wa
   have hsa:szX a<=50000:=by
    by_cases k:t.1=7
    ·rw[if_pos k] at hs'
     have h7:=Cy (show 0<=ar t by omega) k
     have hge:szX a+3<=(szX a+3)*t.2.2.2:=by
      have:=Int.mul_le_mul_of_nonneg_left (c:=szX a+3) h7.2.1 (by omega)
      omega
     omega
    ·rw[if_neg k] at hs';omega
   have hla:=Gj wa (by omega)
   rw[c7]
   obtain ⟨l1,l2⟩:=n9 (A:=flat a) (t:=t) (by omega)
   rw[l1];simp only[aa]
   rw[T2 (.inl e)];simp only[aa,Bool.false_eq_true,if_false]
   rw[l2,Int.toNat_natCast,List.take_left,chk_of (by simp only[aw,al,aE];omega)];simp only[aa]
   rw[ih n (by omega) (by omega) hsa,aac];simp only[aa]
   rcases T3 e with ⟨k1,k2⟩ | ⟨k1,k2,k3⟩
   ·rw[if_pos k1,if_neg (by omega),LG (by simp;omega),Gf];simp
   ·have h7:=Cy (show 0<=ar t by omega) k3
    rw[if_neg (by simp[k1]),if_pos k2,if_pos k3]
    have:=QV (x:=sA a) t.2.2.2.toNat gR t.2.2.1 (by omega) (by omega) (by omega) (by omega) (by omega)
    rw[Int.toNat_of_nonneg (by omega)] at this
    rw[this];rfl
 ·intro t a b e wa wb iha ihb n hn hl hs
  have k:=no7 (.inl e)
  have hs':min ((1:Int)+(if t.1=7 then (szX a+3)*t.2.2.2 else szX a)+(if t.1=7 then (szX b+3)*t.2.2.2 else szX b)) 100000<=50000:=hs
  rw[if_neg k,if_neg k] at hs'
  rw[wu] at hn hl⊢
  obtain ⟨p1,p2,p3,p4⟩:=CA (a:=a) (t:=t) wb hl
  simp only[aw,al,aE] at hn hl
  match n,hn with
  | n+1,hn =>
   have hra:=fq wa
   have hrb:=fq wb
   have hla:=Gj wa (by omega)
   have hlb:=Gj wb (by omega)
   rw[c7]
   obtain ⟨l1,l2⟩:=n9 (A:=flat a++flat b) (t:=t) (by rw[aw];omega)
   rw[l1];simp only[aa]
   rw[abH e];simp only[aa,if_true]
   rw[l2,p1,p2,chk_of (by simp only[aw,al,aE];omega)];simp only[aa]
   rw[chk_of (by simp only[aw,al,aE];omega),p3,p4];simp only[aa]
   rw[iha n (by omega) (by omega) (by omega),chk_of (by simp only[aw,al,aE];omega)];simp only[aa]
   rw[ihb n (by have:=wa.pos;omega) (by omega) (by omega)];simp only[aa]
   rw[LG (by omega),exp2 k,wu];rfl
def Nh (e:List Tok):List Tok×Bool:=
 if decide (e.length<=24)&&isX e then (if 5000<szX (Ak e) then ([],false) else (if 400<(flat (sA (Ak e))).length then ([],false) else (flat (sA (Ak e)),true))) else ([],false)
theorem J7 {e:List Tok} (he:e.length<=1048576):mu e=some (Nh e)/\mn e=some (Nh e):=by
 have hF:=xI
 unfold mu mn Nh
 rw[JZ he,J4 he];simp only[aa]
 by_cases c:(decide (e.length<=24)&&isX e)=true
 ·rw[if_pos c,if_pos c,if_pos c,Gh he];simp only[aa]
  rw[ak] at c
  obtain ⟨x,h1,hw,rfl⟩:=QP c.2
  have h24:(flat x).length<=24:=by simpa using c.1
  have hr:=fq hw
  rw[yQ hw,Zl hw gR (by omega) (by omega),XI hw gR (by omega)];simp only[aa]
  by_cases c2:5000<szX x
  ·have c2':decide (szX x>5000)=true:=by simpa using c2
   simp only[gt_iff_lt,c2,decide_true,if_true,and_self]
  ·have c2':decide (szX x>5000)=false:=by simpa using c2
   simp only[gt_iff_lt,c2,decide_false,if_false,Bool.false_eq_true]
   have hl:=Gj hw (by omega)
   rw[T6 hw gR (by omega) (by omega) (by omega),T5 hw gR (by omega)];simp only[aa]
   unfold re
   rw[QW (Vn hw) gR [] (by omega) (by simp;omega)];simp only[aa,List.nil_append]
   by_cases c3:400<(flat (sA x)).length
   ·have c3':decide (((flat (sA x)).length:Int)>400)=true:=decide_eq_true (by omega)
    simp only[c3',c3,decide_true,if_true,and_self]
   ·have c3':decide (((flat (sA x)).length:Int)>400)=false:=decide_eq_false (by omega)
    simp only[c3',c3,decide_false,if_false,Bool.false_eq_true,and_self]
 ·rw[if_neg c,if_neg c,if_neg c];exact ⟨rfl,rfl⟩
theorem XJ {e:List Tok} (h:(Nh e).2=true): ∃y,WT y/\(Nh e).1=flat y/\(flat y).length<=400:=by
 unfold Nh at h⊢
 split at h
 ·rename_i c
  rw[if_pos c]
  rw[ak] at c
  obtain ⟨x,h1,hw,rfl⟩:=QP c.2
  rw[yQ hw] at h⊢
  split at h
  ·cases h
  ·rename_i c2
   rw[if_neg c2]
   split at h
   ·cases h
   ·rename_i c3
    rw[if_neg c3]
    exact ⟨_,Vn hw,rfl,by omega⟩
 ·cases h
end D
end Go.Proofs.YtodbpnpbhpeepaaGreatDoor
