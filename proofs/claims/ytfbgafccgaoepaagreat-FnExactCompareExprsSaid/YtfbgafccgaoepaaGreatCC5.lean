/- FnExactCompareExprs: for every input the law returns true and changes nothing that was there. Part 6 of 7. -/
import Derived.Test.YtfbgafccgaoepaaGreatCC4
set_option synthInstance.maxSize 20000
set_option synthInstance.maxHeartbeats 2000000
set_option linter.unusedVariables false
set_option linter.unusedSimpArgs false
set_option linter.unnecessarySimpa false
set_option linter.unusedSectionVars false
set_option maxRecDepth 1000000
namespace Go.Proofs.YtfbgafccgaoepaaGreat
open Go.IntKind (i64)
namespace R
open Go.RowKit
open D
theorem lS: ∀n,FOk Tryz.prog 102 (ff n)
 | 0=>ej (f:=ff 0) (enters_of Tryz.func102 (by kernel_rfl) rfl) rfl (fun d=>rfl)
 | n+1=>by
  have ih:=lS n
  exact fk [(102,(ff n)),(153,kJ)] ⟨ih,qd,trivial⟩ Tryz.func102 (.t (.two (.t (.t (.t (.t (.t (.t (.t (.t (.two (.t (.t (.t (.two (.t (.at [.box 10 [(.num .i64),(.num .i64),.boo]] .no)) (.two (.t (.at [.box 10 [(.num .i64),(.num .i64),.boo]] .no)) .no))))) .no))))))))) .no)) (tr:=[(157,104,y94)])
theorem sf:FOk Tryz.prog 57 mo:=fk [(68,lg),(101,qp),(102,(ff cF))] ⟨nh,xk,(lS cF),trivial⟩ Tryz.func57 (.t (.t (.t (.t (.two (.t (.loop [.s 6,.s 22] (.t (.t (.two (.at [.s 6] .no) .no))))) .no))))) (tr:=[(157,104,y94)])
theorem oF:FOk Tryz.prog 103 kE:=fk [] trivial Tryz.func103 (.t (.t (.t (.t (.two (.t (.loop [.slot 10 (.own 3 y3),.slot 11 (.map ⟨3,3,.int,.int⟩),.s 13,.box 12 [(.num .i64),(.own 4 y4),(.own 37 y37)]] (.t (.two (.t (.two (.t (.loop [.slot 10 (.own 3 y3),.slot 11 (.map ⟨3,3,.int,.int⟩),.slot 14 (.own 3 y3),.s 15] (.t (.join [.slot 10 (.own 3 y3),.slot 11 (.map ⟨3,3,.int,.int⟩),.slot 14 (.own 3 y3)] (.t (.t (.t (.join [.slot 10 (.own 3 y3),.slot 11 (.map ⟨3,3,.int,.int⟩),.s 18] .no .no)))) .no)))) .no)) .no)))) .no)))))
theorem pD:FOk Tryz.prog 104 km:=fk [] trivial Tryz.func104 .no
theorem qT:FOk Tryz.prog 106 lP:=fk [] trivial Tryz.func106 (.t (.t (.join [.s 7] .no (.two (.t (.loop [.s 7,.s 21] (.t (.t (.join [.s 7] .no .no))))) (.t (.two (.t (.loop [.s 10,.s 39] (.t (.t (.join [.s 10] .no .no))))) .no))))))
theorem tk:FOk Tryz.prog 105 nc:=fk [(106,lP)] ⟨qT,trivial⟩ Tryz.func105 .no
theorem wH:FOk Tryz.prog 58 pz:=fk [(103,kE),(104,km),(105,nc)] ⟨oF,pD,tk,trivial⟩ Tryz.func58 .no
theorem k9:FOk Tryz.prog 186 bj:=Bp (f:=bj) (ej (f:=⟨bj.ps,bj.rs,bj.m,none⟩) (enters_of Tryz.func186 (by kernel_rfl) rfl) rfl (fun d=>rfl)) (El (V:=⟨tt,[],[(5,.raw)],8,[]⟩) QU trivial mixed Tryz.func186 rfl rfl (enters_of Tryz.func186 (by kernel_rfl) rfl) (bF rfl) .no (fun E bn xs=>by cases bn <;> kernel_rfl))
theorem sg:FOk Tryz.prog 176 mq:=fk [(186,bj)] ⟨k9,trivial⟩ Tryz.func176 (.t (.t (.two (.t (.loop [.slot 4 .boo,.row 3 4 y4] (.t (.t (.t (.loop [.slot 4 .boo,.s 16,.row 3 4 y4] (.t (.t (.two (.t (.t (.loop [.slot 4 .boo,.s 23,.row 3 4 y4] (.t (.t (.two (.at [.slot 4 .boo,.row 3 4 y4] .no) .no)))))) .no))))))))) .no)))
theorem iW:FOk Tryz.prog 187 dH:=fk [] trivial Tryz.func187 (.t (.two (.t (.loop [.s 8] .no)) .no))
theorem lX:FOk Tryz.prog 189 gR:=fk [] trivial Tryz.func189 (.t (.t (.two (.t (.loop [.s 13] .no)) .no)))
theorem oL:FOk Tryz.prog 188 jz:=fk [(189,gR)] ⟨lX,trivial⟩ Tryz.func188 .no
theorem qe:FOk Tryz.prog 177 kK:=fk [(187,dH),(188,jz)] ⟨iW,oL,trivial⟩ Tryz.func177 (.t (.t (.t (.two (.t (.loop [.slot 6 (.own 37 y37),.slot 7 (.own 3 y3),.s 18] (.t (.t (.join [.slot 6 (.own 37 y37),.slot 7 (.own 3 y3)] (.t (.t (.t (.two (.t (.loop [.s 36,.box 10 [(.own 3 y3)]] (.t (.t (.two (.t (.join [.s 12] .no .no)) .no))))) (.t (.join [.slot 6 (.own 37 y37),.s 13,.gone 10] .no .no)))))) .no))))) .no))))
theorem pE:FOk Tryz.prog 154 ko:=fk [(176,mq),(177,kK)] ⟨sg,qe,trivial⟩ Tryz.func154 (.t (.t (.two (.t (.loop [.slot 3 (.own 3 y3),.s 13] (.t (.t (.join [.slot 3 (.own 3 y3)] .no .no))))) (.t (.loop [.slot 3 (.own 3 y3),.s 6] .no)))))
theorem qU:FOk Tryz.prog 196 lQ:=fk [] trivial Tryz.func196 .no
theorem qV:FOk Tryz.prog 197 lR:=fk [] trivial Tryz.func197 .no
theorem tl:FOk Tryz.prog 190 nf:=fk [(196,lQ),(197,lR)] ⟨qU,qV,trivial⟩ Tryz.func190 .no
end R
namespace R
open Go.RowKit
open D
theorem lT:FOk Tryz.prog 178 gk:=fk [(190,nf)] ⟨tl,trivial⟩ Tryz.func178 (.t (.t (.t (.t (.t (.t (.two (.loop [.s 8,.row 7 3 (.int .i64)] .no) .no))))))) (an:=[(44,.bool)])
theorem CX:FOk Tryz.prog 155 wk:=fk [(178,gk)] ⟨lT,trivial⟩ Tryz.func155 .no
theorem lY:FOk Tryz.prog 157 gS:=fk [] trivial Tryz.func157 (.t (.two (.t (.loop [.s 8] .no)) .no))
theorem nj:FOk Tryz.prog 156 iP:=fk [(157,gS)] ⟨lY,trivial⟩ Tryz.func156 .no
theorem nk:FOk Tryz.prog 158 iQ:=fk [] trivial Tryz.func158 .no
theorem mr:FOk Tryz.prog 160 jq:=fk [(86,iO)] ⟨kq,trivial⟩ Tryz.func160 .no
theorem nl:FOk Tryz.prog 159 iR:=fk [(160,jq)] ⟨mr,trivial⟩ Tryz.func159 .no
theorem oM:FOk Tryz.prog 107 jA:=fk [(103,kE),(154,ko),(155,wk),(156,iP),(158,iQ),(159,iR)] ⟨oF,pE,CX,nj,nk,nl,trivial⟩ Tryz.func107 .no
theorem Ju:FOk Tryz.prog 59 Bu:=fk [(107,jA)] ⟨oM,trivial⟩ Tryz.func59 .no
theorem wI:FOk Tryz.prog 30 pA:=fk [(57,mo),(58,pz),(59,Bu)] ⟨sf,wH,Ju,trivial⟩ Tryz.func30 .no
theorem kO:FOk Tryz.prog 61 gU:=fk [(29,dy)] ⟨dP,trivial⟩ Tryz.func61 (.t (.t (.t (.two (.t (.loop [.s 32] (.t (.t (.two (.t (.two (.t (.loop [.s 38] .no)) .no)) .no))))) .no))))
theorem qf:FOk Tryz.prog 108 kL:=fk [(122,py)] ⟨ue,trivial⟩ Tryz.func108 (.t (.t (.two (.t (.loop [.slot 9 (.own 191 (.bag QT)),.slot 8 (.map ⟨141,4,.ii,.bool⟩)] (.t (.two (.t (.t (.t (.loop [.slot 9 (.own 191 (.bag QT)),.s 11,.slot 8 (.map ⟨141,4,.ii,.bool⟩)] (.t (.two (.at [.slot 9 (.own 191 (.bag QT)),.slot 8 (.map ⟨141,4,.ii,.bool⟩)] .no) .no)))))) .no)))) .no))) (an:=[(18,.bag QT),(23,.bool),(58,.bag QT)])
theorem xl:FOk Tryz.prog 161 qq:=fk [(160,jq)] ⟨mr,trivial⟩ Tryz.func161 .no
theorem zJ (c d:List Value) (w:World):Calls Tryz.prog 109 #[.agg c.toArray,.agg d.toArray] w fun e w'=>e= .returned (.func (.func 161) #[] #[.pointer (some ⟨w.heap.size,0,none⟩),.pointer (some ⟨w.heap.size+1,0,none⟩)])/\w'=(w.alloc (.cells c.toArray 61)).alloc (.cells d.toArray 61):=by
 go_enter Tryz.func109,Tryz.ntmps109
 go_wp2
 go_ret
 exact ⟨rfl,rfl⟩
theorem Bz:FOk Tryz.prog 109 iS:=QQ (f:=iS) (ej (f:=⟨iS.ps,iS.rs,iS.m,none⟩) (enters_of Tryz.func109 (by kernel_rfl) rfl) rfl (fun d=>rfl)) (SY (enters_of Tryz.func109 (by kernel_rfl) rfl) zJ)
theorem pF:FOk Tryz.prog 111 kp:=fk [] trivial Tryz.func111 .no
theorem tm:FOk Tryz.prog 110 ng:=fk [(111,kp)] ⟨pF,trivial⟩ Tryz.func110 .no
theorem wJ:FOk Tryz.prog 60 pB:=fk [(61,gU),(108,kL),(109,iS),(110,ng),(161,qq)] ⟨kO,qf,Bz,tm,xl,trivial⟩ Tryz.func60 .no
end R
namespace R
open Go.RowKit
open D
theorem qg:FOk Tryz.prog 31 kM:=fk [(60,pB),(61,gU)] ⟨wJ,kO,trivial⟩ Tryz.func31 .no
theorem uA:FOk Tryz.prog 8 oB:=fk [(12,oA),(28,eO),(29,dy),(30,pA),(31,kM)] ⟨uz,gm,dP,wI,qg,trivial⟩ Tryz.func8 .no
theorem CY:FOk Tryz.prog 62 wm:=fk [] trivial Tryz.func62 .no
theorem BA:FOk Tryz.prog 32 tW:=fk [(62,wm)] ⟨CY,trivial⟩ Tryz.func32 (.t (.t (.two (.t (.loop [.s 5] .no)) .no)))
theorem Gv:FOk Tryz.prog 9 yk:=fk [(32,tW)] ⟨BA,trivial⟩ Tryz.func9 .no
theorem nY:FOk Tryz.prog 3 nW:=fk [(5,xT),(6,ox),(7,yd),(8,oB),(9,yk)] ⟨Gc,uv,Gn,uA,Gv,trivial⟩ Tryz.func3 .no
end R
namespace D
open Go.RowKit
theorem nZ (x0:(List Yq1)) (x1:(List Yq1)) (x2:Int) (r:Bool) (hm:dw x0 x1 x2=some r) {I:Hp} {w0:World} (v0_0:Value) (v1_0:Value) (r0_0:(aq 96 (dV ny (dV ny (dV ny ny)))).rd I [v0_0] x0) (r1_0:(aq 96 (dV ny (dV ny (dV ny ny)))).rd I [v1_0] x1) (hL:Lay Tryz.prog I):Con Tryz.prog 3 #[.agg #[v0_0],.agg #[v1_0],.int .i64 x2] I w0 [] (fun v=>v= .bool r) (fun _=>[]):=fun w C hs =>
 ((R.nY).con rfl w0 I undef [.agg #[v0_0],.agg #[v1_0],.int .i64 x2] (x0,(x1,(x2,()))) r hL ⟨_,_,rfl,⟨[v0_0],rfl,r0_0⟩,⟨_,_,rfl,⟨[v1_0],rfl,r1_0⟩,⟨_,_,rfl,⟨[.int .i64 x2],rfl,rfl⟩,rfl⟩⟩⟩ hm w C hs).mono fun e w' ⟨v,he,_,hst⟩=>by
  obtain ⟨h1,h2⟩:=R.rz (h1:=fun _=>rfl) (show St I w0 w' (Ch.own R.Ty.bool.rep [v] r::C) from hst)
  exact ⟨v,he,(List.cons.inj h1).1,h2⟩
end D
namespace D
open Go.RowKit
def I64 (n:Int):Prop:= -9223372036854775808<=n/\n<=9223372036854775807
class Data (α:Type) where
 lim:α->Prop
 sm:α->Prop
instance:Data Int:=⟨I64,fun _=>True⟩
instance:Data Bool:=⟨fun _=>True,fun _=>True⟩
instance:Data ByteArray:=⟨fun s=>s.size<=9223372036854775807,fun s=>s.size<=1048576⟩
instance {α β:Type} [Data α] [Data β] :Data (α×β):=⟨fun x=>Data.lim x.1/\Data.lim x.2,fun x=>Data.sm x.1/\Data.sm x.2⟩
instance {α:Type} [Data α] :Data (List α):=⟨fun xs=>xs.length<=9223372036854775807/\ ∀x,x∈xs->Data.lim x,fun xs=>xs.length<=1048576/\ ∀x,x∈xs->Data.sm x⟩
structure Opens (P:Program) (t:TypeId) {α:Type} [Data α] (R:Rep α):Prop where
 out: ∀ {H:Type} (enc:TypeId×Value->H) (w:World) (fuel:Nat) (cs:List Value) (x:DataW H×List MemPlace),DataW.trod enc P w 0 (fun _=>true) true fuel t cs=some x-> ∃a:α,R.rd (hp w) cs a/\Data.lim a
theorem Jv {P:Program} {t:TypeId} (h:P.underlying t=some (.int .i64)):Opens P t ny:=by
 constructor
 intro H enc w fuel cs x hx
 obtain ⟨n,rfl,-,hw⟩:=DataW.trod_int h hx
 refine ⟨n,rfl,show I64 n from ?_⟩
 simp[Lit.wf,IntKind.min,IntKind.max,IntKind.signed,IntKind.bits] at hw
 unfold I64
 omega
theorem CZ {P:Program} {t e:TypeId} {α:Type} [Data α] {R:Rep α} {E:TypeId} (h:P.underlying t=some (.slice e)) (hc:P.cellsOf e=R.size) (h0:0<R.size) (he:Opens P e R):Opens P t (aq E R):=by
 constructor
 intro H enc w fuel cs x hx
 rcases Go.Deep.open_slice h hx with ⟨rfl,-⟩ | ⟨a,len,cap,m,n,D,Pl,rfl,-,hl,hm,hmm,-,hel⟩
 ·exact ⟨[],⟨none,0,rfl,by simp,.inl rfl⟩,Nat.zero_le _,fun x hx=>by cases hx⟩
 have hlm:m=cap:=by simpa using hmm
 subst hlm
 rw[hc] at hel
 by_cases hz:len=0
 ·subst hz
  exact ⟨[],⟨some a,m,rfl,by simp,.inl rfl⟩,Nat.zero_le _,fun x hx=>by cases hx⟩
 ·have hone: ∀i,i<len-> ∃c:List Value,∃y:α,c.length=R.size/\(∀j,j<R.size->w.cell? ((a.add (i*R.size)).add j)=c[j]?)/\R.rd (hp w) c y/\Data.lim y:=by
   intro i hi
   obtain ⟨c,h1,h2⟩:=hel i (by omega)
   obtain ⟨-,h3,h4⟩:=World.cells?_some h1
   obtain ⟨y,hy⟩:=he.out enc w _ _ _ h2
   exact ⟨c,y,h3,h4,hy⟩
  obtain ⟨c0,y0,hc0,hr0,-⟩:=hone 0 (by omega)
  have h00:=hr0 0 h0
  have hsome: ∃v,c0[0]? =some v:=⟨_,List.getElem?_eq_getElem (by omega)⟩
  obtain ⟨v,hv⟩:=hsome
  rw[hv] at h00
  have ha:(a.add (0*R.size)).add 0=a:=by simp[Addr.add]
  rw[ha] at h00
  obtain ⟨b,off,spot⟩:=a
  have hb: ∃ccs T fr,w.heap[b]? =some (.cells ccs T fr)/\spot=none:=by
   simp only[World.cell?] at h00
   split at h00
   ·rename_i ccs T fr heq
    cases spot with
    | none=>exact ⟨ccs,T,fr,heq,rfl⟩
    | some s=>simp at h00
   ·simp at h00
  obtain ⟨ccs,T,fr,hh,rfl⟩:=hb
  have hadd: ∀i j,(Addr.add ⟨b,off,none⟩ i).add j=⟨b,off+i+j,none⟩:=by
   intro i j
   by_cases h1:i=0 <;> by_cases h2:j=0 <;> simp[Addr.add,h1,h2,Nat.add_assoc]
  haveI:Inhabited α:=⟨y0⟩
  obtain ⟨X,hX⟩:=Go.Deep.choose_lt (α:=α) (n:=len) (p:=fun i y=> ∃c:List Value,c.length=R.size/\(∀j,j<R.size->ccs.toList[off+i*R.size+j]? =c[j]?)/\R.rd (hp w) c y/\Data.lim y) (fun i hi=>by
   obtain ⟨c,y,h1,h2,h3⟩:=hone i hi
   refine ⟨y,c,h1,fun j hj=>?_,h3⟩
   have:=h2 j hj
   rw[hadd] at this
   simp only[World.cell?,hh] at this
   simpa using this)
  have hlen:((List.range len).map X).length=len:=by simp
  have hel2: ∀i y,((List.range len).map X)[i]? =some y->i<len/\y=X i:=fun i y hy=>by
   have hi:i<len:=by have:=(List.getElem?_eq_some_iff.1 hy).1;omega
   exact ⟨hi,by simpa [hi] using hy.symm⟩
  refine ⟨(List.range len).map X,⟨some ⟨b,off,none⟩,m,by rw[hlen],by rw[hlen];unfold maxLen at hm;unfold lim;omega,.inr ⟨b,off,ccs,T,fr,rfl,hh,fun i y hy=>?_⟩⟩,by rw[hlen];unfold maxLen at hm;omega,fun y hy=>?_⟩
  ·obtain ⟨hi,rfl⟩:=hel2 i y hy
   obtain ⟨c,e1,e2,e3,-⟩:=hX i hi
   exact ⟨c,e1,e2,e3⟩
  ·obtain ⟨i,hi,he⟩:=List.mem_iff_getElem?.1 hy |>.imp fun i hi=>hel2 i y hi
   obtain ⟨-,-,-,-,e4⟩:=hX i hi
   rw[he];exact e4
structure OpensFs (P:Program) (fs:List Field) (o:Nat) {α:Type} [Data α] (R:Rep α):Prop where
 out: ∀ {H:Type} (enc:TypeId×Value->H) (w:World) (fuel:Nat) (cs:List Value),cs.length=o+R.size->
  (∀f∈fs,∃x,DataW.trod enc P w 0 (fun _=>true) true fuel f.type ((cs.drop f.offset).take (P.cellsOf f.type))=some x)-> ∃a:α,R.rd (hp w) (cs.drop o) a/\Data.lim a
theorem yo {P:Program} {f:Field} {o:Nat} {α:Type} [Data α] {R:Rep α} (ho:f.offset=o) (hc:P.cellsOf f.type=R.size) (h:Opens P f.type R):OpensFs P [f] o R:=by
 constructor
 intro H enc w fuel cs hl hx
 obtain ⟨x,hx⟩:=hx f (by simp)
 rw[ho,hc,List.take_of_length_le (by rw[bc];omega)] at hx
 exact h.out enc w _ _ _ hx
theorem tn {P:Program} {f:Field} {fs:List Field} {o:Nat} {α β:Type} [Data α] [Data β] {R:Rep α} {S:Rep β} (ho:f.offset=o) (hc:P.cellsOf f.type=R.size) (h:Opens P f.type R) (hs:OpensFs P fs (o+R.size) S):OpensFs P (f::fs) o (dV R S):=by
 constructor
 intro H enc w fuel cs hl hx
 have hl':cs.length=o+(R.size+S.size):=hl
 obtain ⟨b,hb,hlb⟩:=hs.out enc w fuel cs (by omega) (fun g hg=>hx g (by simp[hg]))
 obtain ⟨x,hx⟩:=hx f (by simp)
 rw[ho,hc] at hx
 obtain ⟨a,ha,hla⟩:=h.out enc w _ _ _ hx
 refine ⟨(a,b),⟨(cs.drop o).take R.size,cs.drop (o+R.size),?_,ha,hb⟩,hla,hlb⟩
 rw[<-List.drop_drop,List.take_append_drop]
theorem ug {P:Program} {t:TypeId} {fs:Array Field} {α:Type} [Data α] {R:Rep α} (h:P.underlying t=some (.struct fs)) (hc:P.cellsOf t=R.size) (hf:OpensFs P fs.toList 0 R):Opens P t R:=by
 constructor
 intro H enc w fuel cs x hx
 obtain ⟨xs,n,-,-,hl,hn,hel⟩:=DataW.trod_struct h hx
 have:=hf.out enc w n cs (by omega) (fun f hm=>by
  obtain ⟨i,hi,rfl⟩:=List.getElem_of_mem hm
  have h1:fs[i]? =some fs.toList[i]:=by simp
  exact ⟨_,(hel i _ h1).trans (List.getElem?_eq_getElem (by simp at hi;omega))⟩)
 simpa using this
theorem St.below {w0 w:World} {cs:List Ch} (h:St (hp w0) w0 w cs):Below w0.heap.size w0 w:=by
 obtain ⟨⟨h1,h2,h3,h4⟩,h5,-⟩:=h
 refine ⟨h1,h2,h3,h4,fun b hb=>?_⟩
 have e:w0.heap[b]? =some w0.heap[b]:=Array.getElem?_eq_getElem hb
 rw[e];exact h5 b _ e
end D
namespace D
open Go.RowKit
theorem fg {n:Int} (h1: -9223372036854775808<=n) (h2:n<=9223372036854775807):i64.wrap n=n:=by
 simp only[IntKind.wrap,IntKind.bits,IntKind.signed,Bool.true_and]
 split <;> rename_i h <;> simp at h <;> omega
theorem af {i:Nat} (h:i<9223372036854775807):i64.wrap ((i:Int)+1)=((i+1:Nat):Int):=by
 rw[fg (by omega) (by omega)];rfl
theorem aY {α:Type} {xs:List α} {i:Nat} (h:i<xs.length):aL xs (i:Int)=some (xs[i]):=by
 unfold aL
 rw[if_pos (Int.natCast_nonneg _)]
 simp[h]
theorem eR {i n:Nat} (h:i<n):decide ((i:Int)<(n:Int))=true:=by simp[h]
theorem eU {n:Nat} :decide ((n:Int)<(n:Int))=false:=by simp
theorem nm (k:Nat) (h:k<=9223372036854775807):k<aS:=by unfold aS;omega
theorem OF {α:Type} {b n:Nat} {z:α} (h:n*b<=140737488355328):mkI b (n:Int) z=some (List.replicate n z):=by
 unfold mkI
 rw[if_pos ⟨Int.natCast_nonneg _,by simpa using h⟩];simp
theorem BB {R S:Type} {f:S->Option (Out R S)} (inv:Nat->S) (N:Nat) (h: ∀i,i<N->f (inv i)=some (.nxt (inv (i+1)))): ∀(m i k:Nat),i+m=N->ay f (k+m) (inv i)=ay f k (inv N)
 | 0,i,k,e=>by rw[show i=N by omega];rfl
 | m+1,i,k,e=>by
  rw[<-Nat.add_assoc,ay,h i (by omega)]
  exact BB inv N h m (i+1) k (by omega)
theorem BC {R S:Type} {f:S->Option (Out R S)} (inv:Nat->S) (N:Nat) {s:S} (h: ∀i,i<N->f (inv i)=some (.nxt (inv (i+1)))) (he:f (inv N)=some (.brk s)) (hN:N<aS):ay f aS (inv 0)=some (.brk s):=by
 have e:aS=(aS - N - 1)+1+N:=by omega
 rw[e,BB inv N h N 0 _ (by omega),ay,he]
theorem toL {R α:Type} {f:List α×Int->Option (Out R (List α×Int))} {z:α} (xs:List α) (hN:xs.length<=9223372036854775807)
  (hstep: ∀ys i (h:i<xs.length),ys.length=xs.length->f (ys,(i:Int))=some (.nxt (ys.set i xs[i],((i+1:Nat):Int)))) (hend: ∀ys,ys.length=xs.length->f (ys,(xs.length:Int))=some (.brk (ys,(xs.length:Int)))) :
  ay f aS (List.replicate xs.length z,0)=some (.brk (xs,(xs.length:Int))):=by
 have h0:(List.replicate xs.length z,(0:Int))=(fun i:Nat=>(xs.take i++(List.replicate xs.length z).drop i,(i:Int))) 0:=by simp
 rw[h0]
 refine BC (fun i:Nat=>(xs.take i++(List.replicate xs.length z).drop i,(i:Int))) xs.length (fun i hi=>?_) ?_ (nm _ hN)
 ·have hl:(xs.take i++(List.replicate xs.length z).drop i).length=xs.length:=by
   rw[aw,aA,bc,List.length_replicate];omega
  rw[hstep _ i hi hl]
  congr 3
  have ht:(xs.take i).length=i:=by rw[aA];omega
  rw[List.set_append_right _ _ (by omega),ht,Nat.sub_self,List.drop_eq_getElem_cons (by rw[List.length_replicate];exact hi),List.set_cons_zero,List.take_succ_eq_append_getElem hi,aB]
  rfl
 ·have:=hend xs rfl
  rw[List.take_of_length_le (aF _),List.drop_of_length_le (by rw[List.length_replicate];exact aF _),List.append_nil]
  exact this
def V2 {α:Type} [Data α] (m:α->Int->Option Int):Prop:= ∀x l,Data.lim x->0<=l->l<=1048576-> ∃r,m x l=some r/\(r<0\/(0<=r/\r<=l/\Data.sm x))
def Vg {α:Type} [Data α] (m:α->Option α):Prop:= ∀x,Data.sm x->m x=some x
def Vh {α:Type} [Data α] [DecidableEq α] (m:α->α->Option Bool):Prop:= ∀x y,Data.sm x->Data.sm y->m x y=some (decide (x=y))
theorem V3 {α:Type} [Data α] {f:Int×Int->Option (Out Int (Int×Int))} (xs:List α)
  (hstep: ∀i (h:i<xs.length) l,0<=l->l<=1048576-> ∃r,f (l,(i:Int))=some (if r<0 then .ret (-1) else .nxt (r,((i+1:Nat):Int)))/\(r<0\/(0<=r/\r<=l/\Data.sm xs[i])))
  (hend: ∀l,f (l,(xs.length:Int))=some (.brk (l,(xs.length:Int)))): ∀(m i k:Nat) (l:Int),i+m=xs.length->m<k->0<=l->l<=1048576->
   ay f k (l,(i:Int))=some (.ret (-1))\/ ∃r,ay f k (l,(i:Int))=some (.brk (r,(xs.length:Int)))/\0<=r/\r<=l/\ ∀j (h:j<xs.length),i<=j->Data.sm xs[j]
 | 0,i,k,l,e,hk,h0,h1=>by
  obtain ⟨k,rfl⟩: ∃q,k=q+1:=⟨k - 1,by omega⟩
  obtain rfl:i=xs.length:=by omega
  exact .inr ⟨l,by rw[ay,hend],h0,Int.le_refl _,fun j hj hi=>by omega⟩
 | m+1,i,k,l,e,hk,h0,h1=>by
  obtain ⟨k,rfl⟩: ∃q,k=q+1:=⟨k - 1,by omega⟩
  obtain ⟨r,e1,e2⟩:=hstep i (by omega) l h0 h1
  rw[ay,e1]
  rcases e2 with e2 | ⟨e2,e3,e4⟩
  ·rw[if_pos e2];exact .inl rfl
  ·rw[if_neg (by omega)]
   rcases V3 xs hstep hend m (i+1) k r (by omega) (by omega) e2 (by omega) with h | ⟨q,g1,g2,g3,g4⟩
   ·exact .inl h
   ·refine .inr ⟨q,g1,g2,by omega,fun j hj hi=>?_⟩
    by_cases hji:j=i
    ·subst hji;exact e4
    ·exact g4 j hj (by omega)
theorem szL {α:Type} [Data α] {f:Int×Int->Option (Out Int (Int×Int))} (xs:List α) {l:Int} (hN:xs.length<=9223372036854775807)
  (hstep: ∀i (h:i<xs.length) l,0<=l->l<=1048576-> ∃r,f (l,(i:Int))=some (if r<0 then .ret (-1) else .nxt (r,((i+1:Nat):Int)))/\(r<0\/(0<=r/\r<=l/\Data.sm xs[i])))
  (hend: ∀l,f (l,(xs.length:Int))=some (.brk (l,(xs.length:Int)))) (h0:0<=l) (h1:l<=1048576) :
  ∃r,(if decide (i64.wrap (l - (xs.length:Int))<0) then (some (-1)) else (aO (ay f aS (i64.wrap (l - (xs.length:Int)),0)) (fun r=>some r) (fun s4=>some s4.1)))=some r/\(r<0\/(0<=r/\r<=l/\Data.sm xs)):=by
 rw[fg (by omega) (by omega)]
 by_cases h:l - (xs.length:Int)<0
 ·exact ⟨-1,by rw[if_pos (decide_eq_true h)],.inl (by decide)⟩
 ·rw[if_neg (by simpa using h)]
  rcases V3 xs hstep hend xs.length 0 aS (l - xs.length) (by omega) (nm _ hN) (by omega) (by omega) with e | ⟨r,e,g1,g2,g3⟩
  ·exact ⟨-1,by rw[show ((0:Int))=((0:Nat):Int) from rfl,e];rfl,.inl (by decide)⟩
  ·refine ⟨r,by rw[show ((0:Int))=((0:Nat):Int) from rfl,e];rfl,.inr ⟨g1,by omega,by omega,fun x hx=>?_⟩⟩
   obtain ⟨j,hj,rfl⟩:=List.getElem_of_mem hx
   exact g3 j hj (Nat.zero_le _)
theorem szF {α:Type} [Data α] (xs:List α) {l:Int} (hN:xs.length<=9223372036854775807) (hf: ∀x:α,Data.sm x) (h0:0<=l) (h1:l<=1048576) :
  ∃r,(if decide (i64.wrap (l - (xs.length:Int))<0) then (some (-1)) else (some (i64.wrap (l - (xs.length:Int)))))=some r/\(r<0\/(0<=r/\r<=l/\Data.sm xs)):=by
 rw[fg (by omega) (by omega)]
 by_cases h:l - (xs.length:Int)<0
 ·exact ⟨-1,by rw[if_pos (decide_eq_true h)],.inl (by decide)⟩
 ·exact ⟨_,by rw[if_neg (by simpa using h)],.inr ⟨by omega,by omega,by omega,fun x _=>hf x⟩⟩
theorem V4 {α:Type} [DecidableEq α] {f:Int->Option (Out Bool Int)} (xs ys:List α) (hl:xs.length=ys.length)
  (hstep: ∀i (h:i<xs.length) (h':i<ys.length),f (i:Int)=some (if xs[i] =ys[i] then .nxt ((i+1:Nat):Int) else .ret false)) (hend:f (xs.length:Int)=some (.brk (xs.length:Int))): ∀(m i k:Nat),i+m=xs.length->m<k->
   ay f k (i:Int)=some (if xs.drop i=ys.drop i then .brk (xs.length:Int) else .ret false)
 | 0,i,k,e,hk=>by
  obtain ⟨k,rfl⟩: ∃q,k=q+1:=⟨k - 1,by omega⟩
  obtain rfl:i=xs.length:=by omega
  rw[ay,hend,List.drop_of_length_le (aF _),List.drop_of_length_le (by omega),if_pos rfl]
 | m+1,i,k,e,hk=>by
  obtain ⟨k,rfl⟩: ∃q,k=q+1:=⟨k - 1,by omega⟩
  have hi:i<xs.length:=by omega
  have hi':i<ys.length:=by omega
  have d1:=List.drop_eq_getElem_cons hi
  have d2:=List.drop_eq_getElem_cons hi'
  rw[ay,hstep i hi hi',d1,d2]
  by_cases h:xs[i] =ys[i]
  ·rw[if_pos h]
   simp only
   rw[V4 xs ys hl hstep hend m (i+1) k (by omega) (by omega)]
   simp only[List.cons.injEq,h,true_and]
  ·rw[if_neg h]
   simp only[List.cons.injEq,h,false_and,if_false]
theorem eqL {α:Type} [DecidableEq α] {f:Int->Option (Out Bool Int)} (xs ys:List α) (hN:xs.length<=9223372036854775807)
  (hstep: ∀i (h:i<xs.length) (h':i<ys.length),f (i:Int)=some (if xs[i] =ys[i] then .nxt ((i+1:Nat):Int) else .ret false)) (hend:f (xs.length:Int)=some (.brk (xs.length:Int))) :
  (if (xs.length:Int) !=(ys.length:Int) then (some false) else (aO (ay f aS 0) (fun r=>some r) (fun s4=>some true)))=some (decide (xs=ys)):=by
 by_cases hl:xs.length=ys.length
 ·rw[if_neg (by rw[hl];simp),show ((0:Int))=((0:Nat):Int) from rfl,V4 xs ys hl hstep hend xs.length 0 aS (by omega) (nm _ hN)]
  by_cases h:xs=ys
  ·subst h;simp[aO]
  ·simp[aO,h]
 ·have:xs≠ys:=fun e=>hl (by rw[e])
  rw[if_pos (by simp;omega)];simp[this]
theorem OG {α:Type} {c d:Prop} [Decidable c] [Decidable d] {a b:α} (h:c↔d):(if c then some a else some b)=some (if d then a else b):=by
 by_cases k:c
 ·rw[if_pos k,if_pos (h.1 k)]
 ·rw[if_neg k,if_neg (fun e=>k (h.2 e))]
theorem QV {α:Type} {c d:Prop} [Decidable c] [Decidable d] {a b:α} (h:c↔ ¬d):(if c then some b else some a)=some (if d then a else b):=by
 by_cases k:d
 ·rw[if_neg (fun e=>h.1 e k),if_pos k]
 ·rw[if_pos (h.2 k),if_neg k]
theorem S8 {f:Int->Option (Out Int Int)} (xs ys:List Int)
  (hstep: ∀i (h:i<xs.length) (h':i<ys.length),f (i:Int)=some (if xs[i] < ys[i] then .ret (-1) else if xs[i] > ys[i] then .ret 1 else .nxt ((i+1:Nat):Int))) (hend: ∀i,xs.length<=i\/ys.length<=i->f (i:Int)=some (.brk (i:Int))): ∀(m i k:Nat),i+m=xs.length->m<k->
   (∃r,ay f k (i:Int)=some (.ret r)/\r≠0/\xs≠ys)\/ ∃s,ay f k (i:Int)=some (.brk s)/\(xs.length=ys.length->xs.drop i=ys.drop i)
 | 0,i,k,e,hk=>by
  obtain ⟨k,rfl⟩: ∃q,k=q+1:=⟨k - 1,by omega⟩
  exact .inr ⟨_,by rw[ay,hend i (.inl (by omega))],fun h=>by rw[List.drop_of_length_le (by omega),List.drop_of_length_le (by omega)]⟩
 | m+1,i,k,e,hk=>by
  obtain ⟨k,rfl⟩: ∃q,k=q+1:=⟨k - 1,by omega⟩
  have hi:i<xs.length:=by omega
  by_cases hi':i<ys.length
  ·have hne: ∀h:xs[i] ≠ys[i],xs≠ys:=fun h e=>h (by subst e;rfl)
   rw[ay,hstep i hi hi']
   by_cases h1:xs[i] < ys[i]
   ·rw[if_pos h1];exact .inl ⟨-1,rfl,by decide,hne (by omega)⟩
   ·rw[if_neg h1]
    by_cases h2:xs[i] > ys[i]
    ·rw[if_pos h2];exact .inl ⟨1,rfl,by decide,hne (by omega)⟩
    ·rw[if_neg h2]
     rcases S8 xs ys hstep hend m (i+1) k (by omega) (by omega) with h | ⟨s,g1,g2⟩
     ·exact .inl h
     ·refine .inr ⟨s,g1,fun hl=>?_⟩
      have h3:xs[i] =ys[i]:=by omega
      rw[List.drop_eq_getElem_cons hi,List.drop_eq_getElem_cons hi',g2 hl,h3]
  ·exact .inr ⟨_,by rw[ay,hend i (.inr (by omega))],fun h=>by omega⟩
instance:LawfulBEq ByteArray where
 eq_of_beq {a b} h:=ByteArray.ext (eq_of_beq (show (a.data==b.data)=true from h))
 rfl {a}:=beq_self_eq_true a.data
theorem kH {α β:Type} (p:α×β):(p.1,p.2)=p:=rfl
theorem pG {α:Type} [Data α] {xs:List α} (h:Data.sm xs):xs.length<=1048576/\ ∀x,x∈xs->Data.sm x:=h
theorem MZ {α:Type} [Data α] {xs:List α} (h:Data.lim xs):xs.length<=9223372036854775807/\ ∀x,x∈xs->Data.lim x:=h
end D
namespace D
open Go.RowKit
theorem cE {R S:Type} {f:S->Option (Out R S)} (Inv:Nat->S->Prop) (Q:Out R S->Prop) (N:Nat)
  (h: ∀i s,i<=N->Inv i s->(i<N/\ ∃s',f s=some (.nxt s')/\Inv (i+1) s')\/ ∃o,f s=some o/\(∀s',o≠ .nxt s')/\Q o) {s:S} (h0:Inv 0 s) (hN:N<aS): ∃o,ay f aS s=some o/\Q o:=by
 have key: ∀(k i:Nat) (s:S),i<=N->N<i+k->Inv i s-> ∃o,ay f k s=some o/\Q o:=by
  intro k
  induction k with
  | zero=>intro i s h1 h2;omega
  | succ k ih =>
   intro i s h1 h2 hI
   rcases h i s h1 hI with ⟨hi,s',e,hI'⟩ | ⟨o,e,hn,hq⟩
   ·obtain ⟨o,e',hq⟩:=ih (i+1) s' (by omega) (by omega) hI'
    exact ⟨o,by rw[ay,e];exact e',hq⟩
   ·refine ⟨o,?_,hq⟩
    rw[ay,e]
    cases o with
    | nxt s'=>exact absurd rfl (hn s')
    | brk s'=>rfl
    | ret r=>rfl
 exact key aS 0 s (by omega) (by omega) h0
theorem be {R S:Type} {f:S->Option (Out R S)} (Inv:Nat->S->Prop) (N:Nat) (h: ∀i s,i<N->Inv i s-> ∃s',f s=some (.nxt s')/\Inv (i+1) s') (he: ∀s,Inv N s->f s=some (.brk s)) {s:S} (h0:Inv 0 s) (hN:N<aS): ∃s',ay f aS s=some (.brk s')/\Inv N s':=by
 obtain ⟨o,e,s',rfl,h⟩:=cE (f:=f) Inv (fun o=> ∃s',o= .brk s'/\Inv N s') N (fun i s hi hI=>by
  by_cases h1:i<N
  ·exact .inl ⟨h1,h i s h1 hI⟩
  ·obtain rfl:i=N:=by omega
   exact .inr ⟨_,he s hI,(fun s' e=>by cases e),s,rfl,hI⟩) h0 hN
 exact ⟨s',e,h⟩
theorem aQ {R S:Type} {f:S->Option (Out R S)} (st:Nat->S) (N:Nat) (h: ∀i,i<N->f (st i)=some (.nxt (st (i+1)))) (he:f (st N)=some (.brk (st N))) (hN:N<aS):ay f aS (st 0)=some (.brk (st N)):=BC st N h he hN
theorem fN {k:Nat} (h:k<=9223372036854775807):k<aS:=nm k h
theorem ku {i:Nat} (h:i<=9223372036854775807):i64.wrap ((i:Int) - 1)=(i:Int) - 1:=fg (by omega) (by omega)
theorem aI {α:Type} {b:Nat} {xs ys:List α} (h:(xs.length+ys.length)*b<=140737488355328):cR b xs ys=some (xs++ys):=by unfold cR;rw[if_pos h]
theorem bu {R S T:Type} {x:Option (Out R S)} {r:R} {kr:R->Option T} {k:S->Option T} (h:x=some (.ret r)):aO x kr k=kr r:=by rw[h];rfl
theorem aj {R S T:Type} {x:Option (Out R S)} {s:S} {kr:R->Option T} {k:S->Option T} (h:x=some (.brk s)):aO x kr k=k s:=by rw[h];rfl
def nth {α:Type} [Inhabited α] (xs:List α) (i:Int):α:=xs.getD i.toNat default
section
variable {α:Type} [Inhabited α] {xs ys:List α}
theorem aD {i:Int} (h0:0<=i) (h1:i<xs.length):aL xs i=some (nth xs i):=by
 unfold aL nth
 rw[if_pos h0]
 have:i.toNat<xs.length:=by omega
 simp[List.getD_eq_getElem?_getD,this]
theorem bB {i:Nat} (h:i<xs.length):nth xs (i:Int)=xs[i]:=by simp[nth,List.getD_eq_getElem?_getD,h]
theorem dD {i:Int} (h0:0<=i) (h1:i<xs.length):nth xs i∈xs:=by
 have:i.toNat<xs.length:=by omega
 have e:nth xs i=xs[i.toNat]:=by simp[nth,List.getD_eq_getElem?_getD,this]
 rw[e];exact List.getElem_mem this
theorem gp {i:Int} (h0:0<=i) (h1:i<xs.length):nth (xs++ys) i=nth xs i:=by
 have:i.toNat<xs.length:=by omega
 simp[nth,List.getD_eq_getElem?_getD,List.getElem?_append_left this]
theorem QW {β:Type} [Inhabited β] {f:α->β} {i:Int} (h0:0<=i) (h1:i<xs.length):nth (xs.map f) i=f (nth xs i):=by
 have:i.toNat<xs.length:=by omega
 simp[nth,List.getD_eq_getElem?_getD,this]
theorem zK {x:α} (h:x∈xs): ∃i:Nat,i<xs.length/\nth xs (i:Int)=x:=by
 obtain ⟨i,hi,rfl⟩:=List.getElem_of_mem h
 exact ⟨i,hi,bB hi⟩
theorem BD {i:Int} {x:α} (h0:0<=i) (h1:i<xs.length):nth (xs.set i.toNat x) i=x:=by
 have:i.toNat<xs.length:=by omega
 simp[nth,List.getD_eq_getElem?_getD,this]
theorem QX (h:xs.length=ys.length) (k: ∀i:Nat,i<xs.length->nth xs (i:Int)=nth ys (i:Int)):xs=ys:=by
 refine List.ext_getElem h fun i h1 h2=>?_
 have:=k i h1
 rwa [bB h1,bB h2] at this
end
section
variable {κ:Type} [DecidableEq κ]
def nbL (l:List κ):Option κ->List κ
 | none=>l
 | some x=>if x∈l then l else l++ [x]
def nbI (l:List κ):Option κ->Int
 | none=> -1
 | some x=>(l.idxOf x:Int)
def nbS (l:List κ) (os:List (Option κ)):List κ:=os.foldl nbL l
def nbR (l:List κ):List (Option κ)->List Int
 | [] =>[]
 | o::os=>nbI l o::nbR (nbL l o) os
theorem n9 (l:List κ) (os:List (Option κ)) (o:Option κ):nbS l (os++ [o])=nbL (nbS l os) o:=by simp[nbS]
theorem qa: ∀(l:List κ) (os:List (Option κ)) (o:Option κ),nbR l (os++ [o])=nbR l os++ [nbI (nbS l os) o]
 | l,[],o=>rfl
 | l,p::os,o=>by
  show nbI l p::nbR (nbL l p) (os++ [o])=nbI l p::nbR (nbL l p) os++ [nbI (nbS (nbL l p) os) o]
  rw[qa (nbL l p) os o];rfl
theorem fD: ∀(l:List κ) (os:List (Option κ)),(nbR l os).length=os.length
 | l,[] =>rfl
 | l,o::os=>by show (nbR (nbL l o) os).length+1=_;rw[fD];rfl
theorem Gw (l : List κ) (o : Option κ) : l <+: nbL l o := by
  cases o with
  | none => exact List.prefix_refl l
  | some x => unfold nbL; simp only; split
              · exact List.prefix_refl l
              · exact List.prefix_append l [x]
theorem gO: ∀(l:List κ) (os:List (Option κ)),l <+:nbS l os
 | l,[] =>List.prefix_refl l
 | l,o::os=>(Gw l o).trans (gO (nbL l o) os)
theorem Jw {l : List κ} {o : Option κ} (h : l.Nodup) : (nbL l o).Nodup := by
  cases o with
  | none => exact h
  | some x => unfold nbL; simp only; split
              · exact h
              · rename_i hx; exact List.nodup_append.2 ⟨h, by simp, by rintro a ha b hb rfl; simp at hb; exact hx (hb ▸ ha)⟩
theorem lU: ∀ {l:List κ} {os:List (Option κ)},l.Nodup->(nbS l os).Nodup
 | l,[],h=>h
 | l,o::os,h=>lU (l:=nbL l o) (os:=os) (Jw h)
theorem Jx {l : List κ} {o : Option κ} {x : κ} : x ∈ nbL l o ↔ x ∈ l \/ o = some x := by
  cases o with
  | none => simp [nbL]
  | some y => unfold nbL; simp only; split
              · rename_i h; constructor
                · exact .inl
                · rintro (h' | h')
                  · exact h'
                  · simp at h'; exact h' ▸ h
              · simp; exact or_congr Iff.rfl eq_comm
theorem pH: ∀ {l:List κ} {os:List (Option κ)} {x:κ},x∈nbS l os↔x∈l\/some x∈os
 | l,[],x=>by simp[nbS]
 | l,o::os,x=>by
  show x∈nbS (nbL l o) os↔_
  rw[pH,Jx,List.mem_cons,or_assoc]
  exact or_congr Iff.rfl (or_congr eq_comm Iff.rfl)
theorem iI {l:List κ} {x:κ} (h:x∈l):nbL l (some x)=l:=by simp[nbL,h]
theorem iJ {l:List κ} {x:κ} (h:x∉l):nbL l (some x)=l++ [x]:=by simp[nbL,h]
theorem np {l:List κ} {x:κ} (h:x∉l):l.idxOf x=l.length:=List.idxOf_eq_length h
def bfS (nx:κ->List (Option κ)) (first:κ):Nat->List κ
 | 0=>[first]
 | i+1=>match (bfS nx first i)[i]? with
  | some x=>nbS (bfS nx first i) (nx x)
  | none=>bfS nx first i
def bfR (nx:κ->List (Option κ)) (first:κ):Nat->List (List Int)
 | 0=>[]
 | i+1=>bfR nx first i++(match (bfS nx first i)[i]? with
  | some x=>[nbR (bfS nx first i) (nx x)]
  | none=>[])
variable {nx:κ->List (Option κ)} {first:κ}
theorem zL {i:Nat} (h:i<(bfS nx first i).length):bfS nx first (i+1)=nbS (bfS nx first i) (nx ((bfS nx first i)[i])):=by
 rw[bfS,List.getElem?_eq_getElem h]
theorem si {i:Nat} (h:i<(bfS nx first i).length):bfR nx first (i+1)=bfR nx first i++ [nbR (bfS nx first i) (nx ((bfS nx first i)[i]))]:=by
 rw[bfR,List.getElem?_eq_getElem h]
theorem bf (i:Nat):bfS nx first i <+:bfS nx first (i+1):=by
 rw[bfS]
 split
 ·exact gO _ _
 ·exact List.prefix_refl _
theorem nq {i j:Nat} (h:i<=j):bfS nx first i <+:bfS nx first j:=by
 induction h with
 | refl=>exact List.prefix_refl _
 | step _ ih=>exact ih.trans (bf _)
theorem jr: ∀i,(bfS nx first i).Nodup
 | 0=>by simp[bfS]
 | i+1=>by
  rw[bfS]
  split
  ·exact lU (jr i)
  ·exact jr i
theorem gP {G:κ->Prop} (h0:G first) (h: ∀x,G x-> ∀y,some y∈nx x->G y): ∀i,∀x∈bfS nx first i,G x
 | 0=>by simp[bfS];exact h0
 | i+1=>by
  rw[bfS]
  split
  ·rename_i y hy
   intro x hx
   rcases pH.1 hx with hx | hx
   ·exact gP h0 h i x hx
   ·exact h y (gP h0 h i y (List.mem_of_getElem? hy)) x hx
  ·exact gP h0 h i
theorem BE (i:Nat):(bfS nx first i)[0]? =some first:=by
 obtain ⟨t,ht⟩:=nq (nx:=nx) (first:=first) (Nat.zero_le i)
 rw[<-ht];rfl
theorem iT: ∀ {i:Nat},(∀j,j<i->j<(bfS nx first j).length)->(bfR nx first i).length=i
 | 0,_=>rfl
 | i+1,h=>by rw[si (h i (by omega)),aw,iT fun j hj=>h j (by omega)];rfl
def bfE (nx:κ->List (Option κ)) (first:κ) (N:Nat):Prop:=N=(bfS nx first N).length/\ ∀i,i<N->i<(bfS nx first i).length
theorem Ep {B:Nat} (hB: ∀i,(bfS nx first i).length<=B): ∃N,N<=B/\bfE nx first N:=by
 have key: ∀m i,i+m=B->(∀j,j<i->j<(bfS nx first j).length)-> ∃N,N<=B/\bfE nx first N:=by
  intro m
  induction m with
  | zero =>
   intro i hi hj
   have h1:=hB i
   have h2:i<=(bfS nx first i).length:=by
    cases i with
    | zero=>omega
    | succ i =>
     have:=hj i (by omega)
     have hp:=(bf (nx:=nx) (first:=first) i).length_le
     omega
   exact ⟨i,by omega,by omega,hj⟩
  | succ m ih =>
   intro i hi hj
   by_cases h:i<(bfS nx first i).length
   ·exact ih (i+1) (by omega) fun j hj'=>by
     by_cases e:j=i
     ·subst e;exact h
     ·exact hj j (by omega)
   ·have h2:i<=(bfS nx first i).length:=by
     cases i with
     | zero=>omega
     | succ i =>
      have:=hj i (by omega)
      have hp:=(bf (nx:=nx) (first:=first) i).length_le
      omega
    exact ⟨i,by omega,by omega,hj⟩
 exact key B 0 (by omega) (by omega)
theorem Er {N M:Nat} (h:bfE nx first N) (k:bfE nx first M):N=M:=by
 rcases Nat.lt_trichotomy N M with e | e | e
 ·have:=k.2 N e;have:=h.1;omega
 ·exact e
 ·have:=h.2 M e;have:=k.1;omega
end
end D
namespace D
open Go.RowKit
abbrev AutT:=Int×(List Bool)×(List (List Int))
structure VA (a:AutT) (n:Nat):Prop where
 len:a.2.1.length=n
 start:0<=a.1/\a.1<n
 nlen:a.2.2.length=n
 row: ∀r∈a.2.2,r.length=9
 ent: ∀r∈a.2.2,∀t∈r,-1<=t/\t<n
def mv (a:AutT) (s:Int) (k:Nat):Int:=nth (nth a.2.2 s) k
theorem KJ (x l h:Int):bQ x l h=some (decide (l<=x/\x<=h)):=by
 unfold bQ
 by_cases c:l<=x
 ·simp[c]
 ·have: ¬l<=x/\True:=⟨c,trivial⟩
  simp[c]
theorem Es (x l h:Int):a8 x l h=some (decide (l<=x/\x<=h)):=by
 unfold a8
 by_cases c:l<=x
 ·simp[c]
 ·simp[c]
theorem scan {α R:Type} [Inhabited α] {f:Int->Option (Out R Int)} (xs:List α) (p:α->Prop) [DecidablePred p] (r:R) (hN:xs.length<=9223372036854775807)
  (h: ∀i:Nat,i<xs.length->f (i:Int)=some (if p (nth xs i) then .nxt ((i+1:Nat):Int) else .ret r)) (he:f (xs.length:Int)=some (.brk (xs.length:Int))) :
  (ay f aS 0=some (.brk (xs.length:Int))/\ ∀x∈xs,p x)\/(ay f aS 0=some (.ret r)/\ ¬ ∀x∈xs,p x):=by
 obtain ⟨o,e,hq⟩:=cE (f:=f) (fun i s=>s=(i:Int)/\ ∀j:Nat,j<i->p (nth xs j)) (fun o=>(o= .brk (xs.length:Int)/\ ∀x∈xs,p x)\/(o= .ret r/\ ¬ ∀x∈xs,p x)) xs.length (s:=0) (by
  rintro i s hi ⟨rfl,hp⟩
  by_cases hl:i<xs.length
  ·by_cases c:p (nth xs i)
   ·refine .inl ⟨hl,_,by rw[h i hl,if_pos c],rfl,fun j hj=>?_⟩
    by_cases e:j=i
    ·subst e;exact c
    ·exact hp j (by omega)
   ·refine .inr ⟨_,by rw[h i hl,if_neg c],(fun s' e=>by cases e),.inr ⟨rfl,fun hx=>c (hx _ (dD (by omega) (by omega)))⟩⟩
  ·obtain rfl:i=xs.length:=by omega
   refine .inr ⟨_,he,(fun s' e=>by cases e),.inl ⟨rfl,fun x hx=>?_⟩⟩
   obtain ⟨j,hj,rfl⟩:=zK hx
   exact hp j hj) ⟨rfl,by omega⟩ (fN hN)
 rcases hq with ⟨rfl,hq⟩ | ⟨rfl,hq⟩
 ·exact .inl ⟨e,hq⟩
 ·exact .inr ⟨e,hq⟩
section
variable {a:AutT} {n:Nat} (V:VA a n)
include V
theorem VA.pos:0<n:=by have:=V.start;omega
theorem VA.rowAt {s:Int} (h0:0<=s) (h1:s<n):(nth a.2.2 s).length=9:=V.row _ (dD h0 (by rw[V.nlen];exact h1))
theorem VA.mv {s:Int} {k:Nat} (h0:0<=s) (h1:s<n) (hk:k<9): -1<=mv a s k/\mv a s k<n:=
 V.ent _ (dD h0 (by rw[V.nlen];exact h1)) _ (dD (by omega) (by rw[V.rowAt h0 h1];omega))
theorem VA.get {s:Int} (h0:0<=s) (h1:s<n):aL a.2.2 s=some (nth a.2.2 s):=aD h0 (by rw[V.nlen];exact h1)
theorem VA.get2 {s:Int} {k:Nat} (h0:0<=s) (h1:s<n) (hk:k<9):aL (nth a.2.2 s) (k:Int)=some (D.mv a s k):=aD (by omega) (by rw[V.rowAt h0 h1];omega)
theorem VA.acc {s:Int} (h0:0<=s) (h1:s<n):aL a.2.1 s=some (nth a.2.1 s):=aD h0 (by rw[V.len];exact h1)
theorem OH {s:Int} {k:Nat} (h0:0<=s) (h1:s<n) (hk:k<9):bq a s (k:Int)=some (mv a s k):=by
 unfold bq dS
 rw[if_neg (by simp;omega),Es];simp only[aa]
 rw[if_pos (by simp;omega),V.get h0 h1];simp only[aa]
 rw[V.get2 h0 h1 hk];rfl
end
theorem Gx {a:AutT} {s:Int} {k:Int} (h0:s<0):bq a s k=some (-1):=by
 unfold bq;rw[if_pos (by simpa using h0)]
end D
namespace D
open Go.RowKit
abbrev Tok:=Int×Int×Int×Int
def ar (t:Tok):Int:=
 if t.1=1\/t.1=2 then (if t.2.1=0/\t.2.2.1=0/\t.2.2.2=0 then 0 else -1)
 else if t.1=3 then (if (0<=t.2.1/\t.2.1<=8)/\t.2.2.1=0/\t.2.2.2=0 then 0 else -1)
 else if t.1=4\/t.1=5 then (if t.2.1=0/\t.2.2.1=0/\t.2.2.2=0 then 2 else -1)
 else if t.1=6 then (if t.2.1=0/\t.2.2.1=0/\t.2.2.2=0 then 1 else -1)
 else if t.1=7 then (if t.2.1=0/\(0<=t.2.2.1/\t.2.2.1<=t.2.2.2)/\(1<=t.2.2.2/\t.2.2.2<=3) then 1 else -1)
 else -1
theorem M4 (x:Int):kd x=some (decide (0<=x/\x<=8)):=by unfold kd;rw[KJ];rfl
theorem zM (x:Int):dS x=some (decide (0<=x/\x<=8)):=by unfold dS;rw[Es];rfl
theorem V5 (t:Tok):lA t=some (ar t):=by
 obtain ⟨k,l,lo,hi⟩:=t
 unfold lA ar
 simp only[M4,KJ,aa]
 by_cases h1:k=1
 ·subst h1;simp;grind
 by_cases h2:k=2
 ·subst h2;simp;grind
 by_cases h3:k=3
 ·subst h3;simp;grind
 by_cases h4:k=4
 ·subst h4;simp;grind
 by_cases h5:k=5
 ·subst h5;simp;grind
 by_cases h6:k=6
 ·subst h6;simp;grind
 by_cases h7:k=7
 ·subst h7;simp;grind
 simp[h1,h2,h3,h4,h5,h6,h7]
theorem S9 (t:Tok):nK t=some (decide (0<=ar t)):=by
 obtain ⟨k,l,lo,hi⟩:=t
 unfold nK ar
 simp only[zM,Es,aa]
 by_cases h1:k=1
 ·subst h1;simp;grind
 by_cases h2:k=2
 ·subst h2;simp;grind
 by_cases h3:k=3
 ·subst h3;simp only[]
  by_cases a:0<=l/\l<=8 <;> by_cases b:lo=0 <;> by_cases c:hi=0 <;> simp[a,b,c]
 by_cases h4:k=4
 ·subst h4;simp;grind
 by_cases h5:k=5
 ·subst h5;simp;grind
 by_cases h6:k=6
 ·subst h6;simp;grind
 by_cases h7:k=7
 ·subst h7;simp only[]
  by_cases a:l=0 <;> by_cases b:0<=lo/\lo<=hi <;> by_cases c:1<=hi/\hi<=3 <;> simp[a,b,c]
 simp[h1,h2,h3,h4,h5,h6,h7]
theorem sj (t:Tok): -1<=ar t/\ar t<=2:=by
 unfold ar
 grind
theorem fF {t:Tok} (h:0<=ar t):(ar t=2/\(t.1=4\/t.1=5))\/(ar t=1/\(t.1=6\/t.1=7))\/(ar t=0/\(t.1=1\/t.1=2\/t.1=3)):=by
 unfold ar at h⊢
 grind
theorem qw {t:Tok} (h:0<=ar t) (k:t.1=7):(0<=t.2.2.1/\t.2.2.1<=t.2.2.2)/\(1<=t.2.2.2/\t.2.2.2<=3):=by
 unfold ar at h
 grind
mutual
def flat:Tr Tok->List Tok
 | .nil=>[]
 | .node t ks=>iK ks++ [t]
def iK:List (Tr Tok)->List Tok
 | [] =>[]
 | k::ks=>flat k++iK ks
end
inductive WT:Tr Tok->Prop
 | node {t:Tok} {ks:List (Tr Tok)} :ar t=(ks.length:Int)->(∀k,k∈ks->WT k)->WT (.node t ks)
theorem nr: ∀(a b:List (Tr Tok)),iK (a++b)=iK a++iK b
 | [],b=>rfl
 | k::a,b=>by rw[List.cons_append,iK,iK,nr a b,aB]
theorem ky (x:Tr Tok):iK [x] =flat x:=by rw[iK,iK,List.append_nil]
theorem Jy (x y:Tr Tok):iK [x,y] =flat x++flat y:=by rw[iK,ky]
theorem WT.cases {x:Tr Tok} (h:WT x):(∃t,x= .node t [] /\ar t=0)\/(∃t a,x= .node t [a] /\ar t=1/\WT a)\/ ∃t a b,x= .node t [a,b] /\ar t=2/\WT a/\WT b:=by
 cases h with
 | @node t ks h1 h2 =>
  have:=(sj t).2
  match ks,h1,h2 with
  | [],h1,h2=>exact .inl ⟨t,rfl,h1⟩
  | [a],h1,h2=>exact .inr (.inl ⟨t,a,rfl,h1,h2 a (by simp)⟩)
  | [a,b],h1,h2=>exact .inr (.inr ⟨t,a,b,rfl,h1,h2 a (by simp),h2 b (by simp)⟩)
  | _::_::_::_,h1,h2=>simp at h1;omega
theorem WT.ind {p:Tr Tok->Prop} (h0: ∀t,ar t=0->p (.node t [])) (h1: ∀t a,ar t=1->WT a->p a->p (.node t [a])) (h2: ∀t a b,ar t=2->WT a->WT b->p a->p b->p (.node t [a,b])) {x:Tr Tok} (h:WT x):p x:=by
 induction h with
 | @node t ks e k ih =>
  have:=(sj t).2
  match ks,e,k,ih with
  | [],e,k,ih=>exact h0 t e
  | [a],e,k,ih=>exact h1 t a e (k a (by simp)) (ih a (by simp))
  | [a,b],e,k,ih=>exact h2 t a b e (k a (by simp)) (k b (by simp)) (ih a (by simp)) (ih b (by simp))
  | _::_::_::_,e,_,_=>simp at e;omega
theorem tp (t:Tok):flat (.node t [])= [t]:=by rw[flat,iK];rfl
theorem sk (t:Tok) (a:Tr Tok):flat (.node t [a])=flat a++ [t]:=by rw[flat,ky]
theorem oc (t:Tok) (a b:Tr Tok):flat (.node t [a,b])=(flat a++flat b)++ [t]:=by rw[flat,Jy]
theorem WT.pos {x:Tr Tok} (h:WT x):1<=(flat x).length:=by
 cases h with
 | node h1 h2=>rw[flat];simp
def stp (s:List (Tr Tok)) (t:Tok):Option (List (Tr Tok)):=if ar t<0\/(s.length:Int)<ar t then none else some (s.take (s.length - (ar t).toNat)++ [.node t (s.drop (s.length - (ar t).toNat))])
def run:List (Tr Tok)->List Tok->Option (List (Tr Tok))
 | s,[] =>some s
 | s,t::l=>(stp s t).bind fun s'=>run s' l
theorem zN: ∀(a:List Tok) {b:List Tok} {s:List (Tr Tok)},run s (a++b)=(run s a).bind fun s'=>run s' b
 | [],b,s=>rfl
 | t::a,b,s=>by
  rw[List.cons_append,run,run]
  cases stp s t with
  | none=>rfl
  | some s'=>exact zN a
theorem sn {a:List Tok} {t:Tok} {s:List (Tr Tok)} :run s (a++ [t])=(run s a).bind fun s'=>stp s' t:=by
 rw[zN]
 congr 1
 funext s'
 rw[run]
 cases stp s' t <;> rfl
theorem OI: ∀ {l:List Tok} {s s':List (Tr Tok)},run s l=some s'->(∀k,k∈s->WT k)->(∀k,k∈s'->WT k)/\iK s'=iK s++l
 | [],s,s',h,hs=>by
  obtain rfl:=ae h
  exact ⟨hs,by simp⟩
 | t::l,s,s',h,hs=>by
  rw[run] at h
  unfold stp at h
  by_cases c:ar t<0\/(s.length:Int)<ar t
  ·rw[if_pos c] at h;cases h
  ·rw[if_neg c] at h
   have hlen:(s.drop (s.length - (ar t).toNat)).length=(ar t).toNat:=by rw[bc];omega
   obtain ⟨k1,k2⟩:=OI (show run _ l=some s' from h) fun k hk=>by
    rcases aC hk with hk | hk
    ·exact hs k (List.mem_of_mem_take hk)
    ·obtain rfl:=ak hk
     exact .node (by rw[hlen];omega) fun k hk=>hs k (List.mem_of_mem_drop hk)
   refine ⟨k1,?_⟩
   rw[k2,nr,ky,flat,<-aB,<-nr,List.take_append_drop]
   simp
theorem Et {x:Tr Tok} (h:WT x): ∀s,run s (flat x)=some (s++ [x]):=by
 refine WT.ind (p:=fun x=> ∀s,run s (flat x)=some (s++ [x])) ?_ ?_ ?_ h
 ·intro t e s
  rw[tp,run,stp,if_neg (by omega),e]
  simp[run]
 ·intro t a e _ ia s
  rw[sk,sn,ia]
  show stp (s++ [a]) t=_
  rw[stp,if_neg (by simp;omega),e]
  simp
 ·intro t a b e _ _ ia ib s
  rw[oc,sn,zN,ia]
  show ((run (s++ [a]) (flat b)).bind fun s'=>stp s' t)=_
  rw[ib]
  show stp (s++ [a] ++ [b]) t=_
  rw[stp,if_neg (by simp;omega),e]
  have:(s++ [a] ++ [b]).length - (2:Int).toNat=s.length:=by simp
  rw[this]
  simp
def isX (e:List Tok):Bool:=match run [] e with
 | some [_] =>true
 | _=>false
theorem BF {e:List Tok} (h:isX e=true): ∃x,run [] e=some [x] /\WT x/\flat x=e:=by
 unfold isX at h
 split at h
 ·rename_i x hx
  obtain ⟨k1,k2⟩:=OI hx (fun k hk=>by cases hk)
  refine ⟨x,hx,k1 x (by simp),?_⟩
  rw[ky] at k2
  rw[k2];rfl
 ·cases h
theorem so {x:Tr Tok} (h:WT x):isX (flat x)=true:=by unfold isX;rw[Et h];rfl
theorem Jz {l:List Tok} : ∀ {s s':List (Tr Tok)},run s l=some s'->s'.length<=s.length+l.length:=by
 induction l with
 | nil=>intro s s' h;obtain rfl:=ae h;simp
 | cons t l ih =>
  intro s s' h
  rw[run] at h
  obtain ⟨s1,h1,h2⟩:=Option.bind_eq_some_iff.1 h
  have h3:=ih h2
  unfold stp at h1
  split at h1
  ·cases h1
  ·obtain rfl:=ae h1
   simp only[aw,aA,aH,aJ] at h3⊢
   omega
theorem wK {e:List Tok} {i:Nat} (h:i<e.length):e.take (i+1)=e.take i++ [nth e (i:Int)]:=by
 rw[List.take_succ_eq_append_getElem h,bB h]
theorem uS {e:List Tok} {i:Nat} (h:i<e.length) {st:List (Tr Tok)} (h1:run [] (e.take i)=some st) (h2:stp st (nth e (i:Int))=none):run [] e=none:=by
 have:run [] (e.take (i+1))=none:=by rw[wK h,sn,h1];exact h2
 rw[<-List.take_append_drop (i+1) e,zN,this];rfl
theorem Eu {e:List Tok} (he:e.length<=1048576):mT e=some (isX e):=by
 obtain ⟨o,eo,hq⟩:=cE (f:=nG e) (fun i s=> ∃st,s=((st.length:Int),(i:Int))/\run [] (e.take i)=some st) (fun o=>(o= .ret false/\run [] e=none)\/ ∃st,o= .brk ((st.length:Int),(e.length:Int))/\run [] e=some st) e.length (s:=(0,0)) (by
  rintro i s hi ⟨st,rfl,hst⟩
  have hl:=Jz hst
  simp only[aJ,aA] at hl
  unfold nG
  simp only[kH]
  by_cases c:i<e.length
  ·rw[if_pos (by simp;omega),aD (by omega) (by omega)];simp only[aa]
   rw[V5];simp only[aa]
   have hr:=sj (nth e (i:Int))
   by_cases c1:ar (nth e (i:Int))<0
   ·refine .inr ⟨_,by rw[if_pos (by simpa using c1)],(fun s' e=>by cases e),.inl ⟨rfl,uS c hst ?_⟩⟩
    rw[stp,if_pos (.inl c1)]
   ·rw[if_neg (by simpa using c1)]
    by_cases c2:ar (nth e (i:Int))>(st.length:Int)
    ·refine .inr ⟨_,by rw[if_pos (by simpa using c2)],(fun s' e=>by cases e),.inl ⟨rfl,uS c hst ?_⟩⟩
     rw[stp,if_pos (.inr c2)]
    ·rw[if_neg (by simpa using c2)]
     refine .inl ⟨c,_,rfl,st.take (st.length - (ar (nth e (i:Int))).toNat)++ [.node (nth e (i:Int)) (st.drop (st.length - (ar (nth e (i:Int))).toNat))],?_,?_⟩
     ·rw[fg (n:=(st.length:Int) - ar (nth e (i:Int))) (by omega) (by omega),fg (by omega) (by omega),af (by omega)]
      congr 1
      simp only[aw,aA,aH,aJ]
      omega
     ·rw[wK c,sn,hst]
      show stp st _=_
      rw[stp,if_neg (by omega)]
  ·obtain rfl:i=e.length:=by omega
   rw[List.take_of_length_le (by omega)] at hst
   exact .inr ⟨_,by rw[if_neg (by simp)],(fun s' e=>by cases e),.inr ⟨st,rfl,hst⟩⟩) ⟨[],rfl,rfl⟩ (fN (by omega))
 unfold mT
 rcases hq with ⟨rfl,h⟩ | ⟨st,rfl,h⟩
 ·rw[bu eo];unfold isX;rw[h]
 ·rw[aj eo];unfold isX;rw[h]
  match st with
  | [] =>rfl
  | [_] =>rfl
  | _::_::_=>simp;omega
theorem Vi {t:Tok} (h:0<=ar t):(Option.bind ((if t.1==4 then (some (t.1==4)) else (some (t.1==5)):Option Bool)) (fun s3=>if s3 then (some 2) else (Option.bind ((if t.1==6 then (some (t.1==6)) else (some (t.1==7)):Option Bool)) (fun s4=>if s4 then (some 1) else (some 0)))):Option Int)=some (ar t):=by
 rcases fF h with ⟨e,k | k⟩ | ⟨e,k | k⟩ | ⟨e,k | k | k⟩ <;> rw[e] <;> simp[k]
theorem QY (t:Tok): ∃n:Int,(Option.bind ((if t.1==4 then (some (t.1==4)) else (some (t.1==5)):Option Bool)) (fun s3=>if s3 then (some 2) else (Option.bind ((if t.1==6 then (some (t.1==6)) else (some (t.1==7)):Option Bool)) (fun s4=>if s4 then (some 1) else (some 0)))):Option Int)=some n:=by
 by_cases h4:t.1=4
 ·exact ⟨2,by simp[h4]⟩
 by_cases h5:t.1=5
 ·exact ⟨2,by simp[h5]⟩
 by_cases h6:t.1=6
 ·exact ⟨1,by simp[h6]⟩
 by_cases h7:t.1=7
 ·exact ⟨1,by simp[h7]⟩
 exact ⟨0,by simp[h4,h5,h6,h7]⟩
def uB (e:List Tok):Tr Tok:=match run [] e with
 | some [x] =>x
 | _=>.nil
theorem sr {e:List Tok} (he:e.length<=1048576):iN e=some (uB e):=by
 obtain ⟨o,eo,hq⟩:=cE (f:=nL e) (fun i s=> ∃st,s=(st,(i:Int))/\run [] (e.take i)=some st) (fun o=>(o= .ret Tr.nil/\run [] e=none)\/ ∃st,o= .brk (st,(e.length:Int))/\run [] e=some st) e.length (s:=([],0)) (by
  rintro i s hi ⟨st,rfl,hst⟩
  have hl:=Jz hst
  simp only[aJ,aA] at hl
  unfold nL
  simp only[kH]
  by_cases c:i<e.length
  ·rw[if_pos (by simp;omega),aD (by omega) (by omega)];simp only[aa]
   have hr:=sj (nth e (i:Int))
   by_cases c1:ar (nth e (i:Int))<0
   ·obtain ⟨n,hn⟩:=QY (nth e (i:Int))
    rw[hn];simp only[aa]
    rw[S9];simp only[aa]
    refine .inr ⟨_,by rw[if_neg (by simp;omega)],(fun s' e=>by cases e),.inl ⟨rfl,uS c hst ?_⟩⟩
    rw[stp,if_pos (.inl c1)]
   ·rw[Vi (by omega)];simp only[aa]
    rw[S9];simp only[aa]
    rw[if_pos (by simp;omega),fg (n:=(st.length:Int) - ar (nth e (i:Int))) (by omega) (by omega)]
    by_cases c2:ar (nth e (i:Int))>(st.length:Int)
    ·refine .inr ⟨_,by rw[if_pos (by simp;omega)],(fun s' e=>by cases e),.inl ⟨rfl,uS c hst ?_⟩⟩
     rw[stp,if_pos (.inr c2)]
    ·rw[if_neg (by simp;omega),show∀p:Prop,∀ [Decidable p],p->chk p=some () from fun p _ hp=>by unfold chk;rw[if_pos hp]]
     ·simp only[aa]
      have e1:((st.length:Int) - ar (nth e (i:Int))).toNat=st.length - (ar (nth e (i:Int))).toNat:=by omega
      rw[e1,aI (by simp;omega)];simp only[aa]
      rw[aI (by simp;omega)];simp only[aa,List.nil_append,af (show i<9223372036854775807 by omega)]
      refine .inl ⟨c,_,rfl,_,rfl,?_⟩
      rw[wK c,sn,hst]
      show stp st _=_
      rw[stp,if_neg (by omega)]
     ·omega
  ·obtain rfl:i=e.length:=by omega
   rw[List.take_of_length_le (by omega)] at hst
   exact .inr ⟨_,by rw[if_neg (by simp)],(fun s' e=>by cases e),.inr ⟨st,rfl,hst⟩⟩) ⟨[],rfl,rfl⟩ (fN (by omega))
 unfold iN
 rcases hq with ⟨rfl,h⟩ | ⟨st,rfl,h⟩
 ·rw[bu eo];unfold uB;rw[h]
 ·rw[aj eo];unfold uB;rw[h]
  match st with
  | [] =>rfl
  | [x] =>rfl
  | _::_::_ =>
   simp only
   rw[if_pos (by simp;omega)]
theorem nt {x:Tr Tok} (h:WT x):uB (flat x)=x:=by unfold uB;rw[Et h];rfl
theorem M5 {e:List Tok} (he:e.length<=1048576):p7 e=some (isX e):=by
 unfold p7
 rw[sr he];simp only[aa]
 congr 1
 by_cases h:isX e=true
 ·rw[h]
  obtain ⟨x,h1,h2,h3⟩:=BF h
  have:uB e=x:=by unfold uB;rw[h1]
  rw[this]
  cases h2 with
  | node _ _=>rfl
 ·have:uB e= .nil:=by
   unfold uB
   unfold isX at h
   split
   ·rename_i x hx;rw[hx] at h;exact absurd rfl h
   ·rfl
  rw[this,Bool.eq_false_iff.2 h];rfl
theorem jP {e:List Tok} (he:e.length<=1048576):bN e=some (decide (e.length<=24)&&isX e):=by
 unfold bN
 rw[Eu he]
 by_cases c:e.length<=24
 ·rw[if_pos (by simp;omega)];simp[c]
 ·rw[if_neg (by simp;omega)];simp[c]
theorem jQ {e:List Tok} (he:e.length<=1048576):bO e=some (decide (e.length<=24)&&isX e):=by
 unfold bO
 rw[M5 he]
 by_cases c:e.length<=24
 ·rw[if_pos (by simp;omega)];simp[c]
 ·rw[if_neg (by simp;omega)];simp[c]
theorem ix {p:Prop} [Decidable p] (h:p):chk p=some ():=by unfold chk;rw[if_pos h]
theorem QZ {A:List Tok} {x:Tr Tok} (hx:WT x) (hl:(A++flat x).length<=1000000):dY (A++flat x)=some (A.length:Int):=by
 obtain ⟨s',e,ks,q1,q2,q3⟩: ∃s',ay (jT (A++flat x)) aS (1,((A++flat x).length:Int))=some (.brk s')/\ ∃ks:List (Tr Tok),ks= [] /\s'.2=(A.length:Int)/\True:=by
  obtain ⟨o,eo,hq⟩:=cE (f:=jT (A++flat x)) (fun i s=> ∃ks:List (Tr Tok),(∀k,k∈ks->WT k)/\s=((ks.length:Int),(((A++iK ks).length:Nat):Int))/\i+(iK ks).length=(flat x).length/\(A++flat x).take (A++iK ks).length=A++iK ks) (fun o=> ∃s',o= .brk s'/\s'.2=(A.length:Int)) (flat x).length (s:=(1,((A++flat x).length:Int))) (by
   rintro i s hi ⟨ks,hw,rfl,hlen,htk⟩
   unfold jT
   simp only[kH]
   rcases List.eq_nil_or_concat ks with rfl | ⟨ks',y,rfl⟩
   ·refine .inr ⟨_,by rw[if_neg (by simp)],(fun s' e=>by cases e),_,rfl,?_⟩
    simp[iK]
   ·have hy:=hw y (by simp)
    cases hy with
    | @node t cs h1 h2 =>
     have hfl:iK (ks'++ [.node t cs])=iK (ks'++cs)++ [t]:=by rw[nr,ky,flat,nr,aB]
     rw[List.concat_eq_append,hfl] at hlen htk⊢
     simp only[aw,aH,aJ] at hlen htk hl⊢
     rw[if_pos (by simp <;> omega)]
     have hpos:i64.wrap (((A.length+((iK (ks'++cs)).length+1):Nat):Int) - 1)=((A.length+(iK (ks'++cs)).length:Nat):Int):=by
      rw[fg (by omega) (by omega)];omega
     have hget:nth (A++flat x) ((A.length+(iK (ks'++cs)).length:Nat):Int)=t:=by
      have hlt:A.length+(iK (ks'++cs)).length<(A++flat x).length:=by rw[aw];omega
      have e1:=congrArg (fun l:List Tok=>l[A.length+(iK (ks'++cs)).length]?) htk
      rw[List.getElem?_take_of_lt (by omega),List.getElem?_eq_getElem hlt,<-aB,List.getElem?_append_right (by rw[aw];omega),aw] at e1
      rw[bB hlt]
      simpa using e1
     rw[hpos,aD (by omega) (by simp only[aw];omega),hget];simp only[aa]
     rw[V5,h1];simp only[aa]
     have hcl:(cs.length:Int)<=2:=by rw[<-h1];exact (sj t).2
     have hkl:ks'.length<=(iK (ks'++cs)).length+1000000:=by
      have: ∀l:List (Tr Tok),(∀k,k∈l->WT k)->l.length<=(iK l).length:=by
       intro l
       induction l with
       | nil=>intro _;simp
       | cons k l ih =>
        intro h
        have h1:=(h k (by simp)).pos
        have h2:=ih fun k hk=>h k (by simp[hk])
        rw[iK];simp only[aH,aw];omega
      have:=this ks' fun k hk=>hw k (by simp[hk])
      rw[nr,aw];omega
     refine .inl ⟨by omega,_,rfl,ks'++cs,fun k hk=>?_,?_,by omega,?_⟩
     ·rcases aC hk with hk | hk
      ·exact hw k (by simp[hk])
      ·exact h2 k hk
     ·rw[fg (n:=((ks'.length+1:Nat):Int) - 1) (by omega) (by omega),fg (by omega) (by omega)]
      congr 1
      (simp only[aw]) <;> omega
     ·have e1:=congrArg (List.take (A++iK (ks'++cs)).length) htk
      rw[List.take_take,Nat.min_eq_left (by rw[aw];omega),<-aB,List.take_left] at e1
      rw[aw] at e1
      exact e1) ⟨[x],fun k hk=>by (obtain rfl:=ak hk;exact hx),by rw[ky];rfl,by rw[ky];omega,by rw[ky,List.take_length]⟩ (fN (by rw[aw] at hl;omega))
  obtain ⟨s',rfl,h2⟩:=hq
  exact ⟨s',eo,[],rfl,h2,trivial⟩
 unfold dY
 rw[aj e,q2]
end D
namespace D
open Go.RowKit
instance trInh {α:Type} :Inhabited (Tr α):=⟨.nil⟩
def szX:Tr Tok->Int
 | .nil=>0
 | .node t ks=>min (szL t 1 ks) 100000
where szL (t:Tok) (acc:Int):List (Tr Tok)->Int
 | [] =>acc
 | k::ks=>szL t (acc+(if t.1=7 then (szX k+3)*t.2.2.2 else szX k)) ks
theorem kz {x:Tr Tok} (h:WT x):1<=szX x/\szX x<=100000:=by
 refine WT.ind (p:=fun x=>1<=szX x/\szX x<=100000) ?_ ?_ ?_ h
 ·intro t _
  show 1<=min (1:Int) 100000/\min (1:Int) 100000<=100000
  omega
 ·intro t a e _ ih
  show 1<=min ((1:Int)+(if t.1=7 then (szX a+3)*t.2.2.2 else szX a)) 100000/\min ((1:Int)+(if t.1=7 then (szX a+3)*t.2.2.2 else szX a)) 100000<=100000
  split
  ·rename_i k
   have hr:=qw (show 0<=ar t by omega) k
   have:0<=(szX a+3)*t.2.2.2:=Int.mul_nonneg (by omega) (by omega)
   omega
  ·omega
 ·intro t a b e _ _ iha ihb
  have k:t.1≠7:=by
   grind[fF,ar]
  show 1<=min ((1:Int)+(if t.1=7 then (szX a+3)*t.2.2.2 else szX a)+(if t.1=7 then (szX b+3)*t.2.2.2 else szX b)) 100000/\min ((1:Int)+(if t.1=7 then (szX a+3)*t.2.2.2 else szX a)+(if t.1=7 then (szX b+3)*t.2.2.2 else szX b)) 100000<=100000
  omega
theorem BG {a h:Int} (h1:1<=a/\a<=100000) (h2:1<=h/\h<=3):i64.wrap ((i64.wrap (a+3))*h)=(a+3)*h:=by
 have k1:0<=(a+3)*h:=Int.mul_nonneg (by omega) (by omega)
 have k2:(a+3)*h<=100003*3:=Int.mul_le_mul (by omega) (by omega) (by omega) (by omega)
 grind[fg]
theorem JA {a h:Int} (h1:1<=a/\a<=100000) (h2:1<=h/\h<=3):0<=(a+3)*h/\(a+3)*h<=300009:=by
 have k1:0<=(a+3)*h:=Int.mul_nonneg (by omega) (by omega)
 have k2:(a+3)*h<=100003*3:=Int.mul_le_mul (by omega) (by omega) (by omega) (by omega)
 omega
theorem iy {t:Tok} {ks:List (Tr Tok)} :Tr.get (.node t ks)=some (t,ks):=rfl
theorem tu {f:Tr Tok->Option Int} {t:Tok} {ks:List (Tr Tok)} {i:Nat} {acc:Int} (hi:i<ks.length) (hf:f (nth ks (i:Int))=some (szX (nth ks (i:Int)))) (hw:WT (nth ks (i:Int))) (ht:0<=ar t) (ha:0<=acc/\acc<=1000000) (hik:i<=1000000) :
  cO f (.node t ks) (t,ks) (acc,(i:Int))=some (.nxt (acc+(if t.1=7 then (szX (nth ks (i:Int))+3)*t.2.2.2 else szX (nth ks (i:Int))),((i+1:Nat):Int))):=by
 unfold cO
 simp only[iy]
 have hr:=kz hw
 rw[if_pos (by grind),aD (by omega) (by omega)];simp only[aa]
 by_cases k:t.1=7
 ·have h7:=qw ht k
  have hm:=JA hr h7.2
  rw[if_pos (by grind),if_pos k,hf];simp only[aa]
  rw[BG hr h7.2,fg (by omega) (by omega),af (by omega)]
 ·rw[if_neg (by grind),if_neg k,hf];simp only[aa]
  rw[fg (by omega) (by omega),af (by omega)]
theorem uT {α:Type} [Inhabited α] {a:α} {l:List α} :nth (a::l) ((0:Nat):Int)=a:=rfl
theorem JB {α:Type} [Inhabited α] {a b:α} {l:List α} :nth (a::b::l) ((1:Nat):Int)=b:=rfl
theorem Q0 {x:Tr Tok} (h:WT x): ∀n,(flat x).length<=n->bP n x=some (szX x):=by
 refine WT.ind (p:=fun x=> ∀n,(flat x).length<=n->bP n x=some (szX x)) ?_ ?_ ?_ h
 ·intro t e n hn
  match n,hn with
  | n+1,_ =>
   rfl
 ·intro t a e wa ih n hn
  rw[sk,aw] at hn
  match n,hn with
  | n+1,hn =>
   rw[bP];simp[iy,aa]
   have hL:ay (cO (bP n) (.node t [a]) (t,[a])) aS (1,0)=some (.brk (szX.szL t 1 [a],1)):=aQ (f:=cO (bP n) (.node t [a]) (t,[a])) (fun i=>(szX.szL t 1 ([a].take i),(i:Int))) 1 (fun i hi=>by
    obtain rfl:i=0:=by omega
    exact tu (acc:=1) (i:=0) (by simp) (ih n (by grind)) wa (by omega) (by omega) (by omega)) (by rfl) (by unfold aS;omega)
   rw[aj hL]
   rfl
 ·intro t a b e wa wb iha ihb n hn
  rw[oc,aw,aw] at hn
  match n,hn with
  | n+1,hn =>
   have hra:=kz wa
   have k:t.1≠7:=by
    grind[fF,ar]
   rw[bP];simp[iy,aa]
   have hL:ay (cO (bP n) (.node t [a,b]) (t,[a,b])) aS (1,0)=some (.brk (szX.szL t 1 [a,b],2)):=aQ (f:=cO (bP n) (.node t [a,b]) (t,[a,b])) (fun i=>(szX.szL t 1 ([a,b].take i),(i:Int))) 2 (fun i hi=>by
    have:i=0\/i=1:=by omega
    rcases this with rfl | rfl
    ·exact tu (acc:=1) (i:=0) (by simp) (iha n (by grind)) wa (by omega) (by omega) (by omega)
    ·exact tu (acc:=1+(if t.1=7 then (szX a+3)*t.2.2.2 else szX a)) (i:=1) (by simp) (ihb n (by grind)) wb (by omega) (by omega) (by omega)) (by rfl) (by unfold aS;omega)
   rw[aj hL]
   rfl
theorem iF {A:List Tok} {t:Tok} (h:A.length<=1000000):aL (A++ [t]) (i64.wrap (((A++ [t]).length:Int) - 1))=some t/\i64.wrap (((A++ [t]).length:Int) - 1)=(A.length:Int):=by
 have e:i64.wrap (((A++ [t]).length:Int) - 1)=(A.length:Int):=by
  rw[fg (by omega) (by grind)]
  simp only[aw,aH,aJ];omega
 grind[aD,aw,aH,aJ,bB]
theorem V6 {t:Tok} (h:ar t=2):(if t.1==4 then (some (t.1==4)) else (some (t.1==5)):Option Bool)=some true:=by
 grind[fF,ar]
theorem M6 {t:Tok} (h:ar t=1\/ar t=0):(if t.1==4 then (some (t.1==4)) else (some (t.1==5)):Option Bool)=some false:=by
 rcases fF (show 0<=ar t by omega) with ⟨e,k⟩ | ⟨e,k | k⟩ | ⟨e,k | k | k⟩
 ·omega
 all_goals simp[k]
theorem Ta {t:Tok} (h:ar t=0):(t.1==6)=false/\(t.1==7)=false:=by
 grind[fF,ar]
theorem Gy {t:Tok} (h:ar t=1):((t.1==6)=true/\t.1=6)\/((t.1==6)=false/\(t.1==7)=true/\t.1=7):=by
 grind[fF,ar]
theorem ss {a b:Tr Tok} {t:Tok} (wb:WT b) (hl:((flat a++flat b)++ [t]).length<=1000000) :
  (((flat a++flat b)++ [t]).take ((((flat a++flat b).length:Nat):Int)).toNat)=flat a++flat b /\
  dY (flat a++flat b)=some (((flat a).length:Nat):Int) /\
  (((flat a++flat b)++ [t]).take ((((flat a).length:Nat):Int)).toNat)=flat a /\
  (flat a++flat b).drop ((((flat a).length:Nat):Int)).toNat=flat b:=by
 grind[QZ,aw,aH,aJ,Int.toNat_natCast,List.take_left,aB,List.drop_left]
theorem Tb {x:Tr Tok} (h:WT x): ∀n,(flat x).length<=n->(flat x).length<=1000000->dA n (flat x)=some (szX x):=by
 refine WT.ind (p:=fun x=> ∀n,(flat x).length<=n->(flat x).length<=1000000->dA n (flat x)=some (szX x)) ?_ ?_ ?_ h
 ·intro t e n hn hl
  rw[tp] at hn hl⊢
  match n,hn with
  | n+1,_ =>
   have hk:=Ta e
   rw[dA]
   have:=(iF (A:=[]) (t:=t) (by simp)).1
   rw[List.nil_append] at this
   rw[this];simp only[aa]
   rw[M6 (.inr e)];simp[aa,hk.1,hk.2,Bool.false_eq_true,if_false]
   rfl
 ·intro t a e wa ih n hn hl
  rw[sk] at hn hl⊢
  simp[aw,aH,aJ] at hn hl
  match n,hn with
  | n+1,hn =>
   have hr:=kz wa
   rw[dA]
   have ⟨l1,l2⟩:=iF (A:=flat a) (t:=t) (by omega)
   rw[l1];simp only[aa]
   rw[M6 (.inl e)];simp only[aa,Bool.false_eq_true,if_false]
   rw[l2,Int.toNat_natCast,List.take_left,ix (by grind)];simp only[aa]
   rw[ih n (by omega) (by omega)];simp only[aa]
   rcases Gy e with ⟨k1,k2⟩ | ⟨k1,k2,k3⟩
   ·rw[if_pos k1,fg (by omega) (by omega)]
    show some (min 100000 (szX a+1))=some (min ((1:Int)+(if t.1=7 then (szX a+3)*t.2.2.2 else szX a)) 100000)
    grind
   ·have h7:=qw (show 0<=ar t by omega) k3
    have hm:=JA hr h7.2
    rw[if_neg (by grind),if_pos k2,BG hr h7.2,fg (by omega) (by omega)]
    show some (min 100000 ((szX a+3)*t.2.2.2+1))=some (min ((1:Int)+(if t.1=7 then (szX a+3)*t.2.2.2 else szX a)) 100000)
    grind
 ·intro t a b e wa wb iha ihb n hn hl
  rw[oc] at hn hl⊢
  have ⟨p1,p2,p3,p4⟩:=ss (a:=a) (t:=t) wb hl
  simp[aw,aH,aJ] at hn hl
  match n,hn with
  | n+1,hn =>
   have hra:=kz wa
   have hrb:=kz wb
   have k:t.1≠7:=by
    rcases fF (show 0<=ar t by omega) with ⟨_,k⟩ | ⟨k,_⟩ | ⟨k,_⟩ <;> omega
   rw[dA]
   have ⟨l1,l2⟩:=iF (A:=flat a++flat b) (t:=t) (by grind)
   rw[l1];simp only[aa]
   rw[V6 e];rw[l2,p1,p2,ix (by grind)];simp only[aa]
   rw[ix (by grind),p3,p4];rw[iha n (by omega) (by omega),ix (by simp[aw,aH,aJ];omega)];rw[ihb n (by omega) (by omega)];simp only[aa]
   rw[fg (n:=szX a+szX b) (by omega) (by omega),fg (by omega) (by omega)]
   show some (min 100000 (szX a+szX b+1))=some (min ((1:Int)+(if t.1=7 then (szX a+3)*t.2.2.2 else szX a)+(if t.1=7 then (szX b+3)*t.2.2.2 else szX b)) 100000)
   grind
def M7:Tr Tok:=.node (2,0,0,0) []
def Gz (x:Tr Tok):Nat->Int->Tr Tok
 | 0,_=>M7
 | h+1,low=>if 0<low then .node (4,0,0,0) [x,Gz x h (max 0 (low - 1))] else .node (5,0,0,0) [.node (4,0,0,0) [x,Gz x h (max 0 (low - 1))],M7]
mutual
def tv:Tr Tok->Tr Tok
 | .nil=>.nil
 | .node t ks=>if t.1=7 then Gz ((Tc ks).headD .nil) t.2.2.2.toNat t.2.2.1 else .node t (Tc ks)
def Tc:List (Tr Tok)->List (Tr Tok)
 | [] =>[]
 | k::ks=>tv k::Tc ks
end
theorem ar4:ar (4,0,0,0)=2:=by decide
theorem ar5:ar (5,0,0,0)=2:=by decide
theorem ar2:ar (2,0,0,0)=0:=by decide
theorem JC:WT M7:=.node ar2 fun k hk=>by cases hk
theorem wL:flat M7= [(2,0,0,0)]:=tp _
theorem WT.two {t:Tok} {a b:Tr Tok} (h:ar t=2) (ha:WT a) (hb:WT b):WT (.node t [a,b]):=.node h fun k hk=>by
 grind
theorem WT.one {t:Tok} {a:Tr Tok} (h:ar t=1) (ha:WT a):WT (.node t [a]):=.node h fun k hk=>by
 grind
theorem C1 {x:Tr Tok} (hx:WT x): ∀(h:Nat) (low:Int),WT (Gz x h low)
 | 0,_=>JC
 | h+1,low=>by
  rw[Gz]
  split
  ·exact .two ar4 hx (C1 hx h _)
  ·exact .two ar5 (.two ar4 hx (C1 hx h _)) JC
theorem zO (x:Tr Tok): ∀(h:Nat) (low:Int),(flat (Gz x h low)).length<=((flat x).length+3)*h+1
 | 0,_=>by rw[Gz,wL];simp
 | h+1,low=>by
  have ih:=zO x h (max 0 (low - 1))
  grind[Gz,oc,aw,aH,aJ,Nat.mul_succ,wL]
theorem Uv {t:Tok} {a:Tr Tok} :tv (.node t [a])=if t.1=7 then Gz (tv a) t.2.2.2.toNat t.2.2.1 else .node t [tv a]:=by rfl
theorem exp2 {t:Tok} {a b:Tr Tok} (h:t.1≠7):tv (.node t [a,b])= .node t [tv a,tv b]:=by simp_all[tv,if_neg,Tc]
theorem Uw {t:Tok} (h:t.1≠7):tv (.node t [])= .node t []:=by rw[tv,if_neg h,Tc]
theorem no7 {t:Tok} (h:ar t=2\/ar t=0):t.1≠7:=by
 grind[fF,ar]
theorem OJ {x:Tr Tok} (h:WT x):WT (tv x):=by
 refine WT.ind (p:=fun x=>WT (tv x)) ?_ ?_ ?_ h
 ·intro t e
  rw[Uw (no7 (.inr e))]
  exact .node e fun k hk=>by cases hk
 ·intro t a e _ ih
  rw[Uv]
  split
  ·exact C1 ih _ _
  ·exact .one e ih
 ·intro t a b e _ _ iha ihb
  rw[exp2 (no7 (.inl e))]
  exact .two e iha ihb
theorem zP {x:Tr Tok} (h:WT x):szX x<100000->((flat (tv x)).length:Int)<=szX x:=by
 refine WT.ind (p:=fun x=>szX x<100000->((flat (tv x)).length:Int)<=szX x) ?_ ?_ ?_ h
 ·intro t e _
  rw[Uw (no7 (.inr e)),tp]
  show (1:Int)<=min 1 100000
  omega
 ·intro t a e wa ih hs
  have hs':min ((1:Int)+(if t.1=7 then (szX a+3)*t.2.2.2 else szX a)) 100000<100000:=hs
  show _<=min ((1:Int)+(if t.1=7 then (szX a+3)*t.2.2.2 else szX a)) 100000
  rw[Uv]
  by_cases k:t.1=7
  ·have h7:=qw (show 0<=ar t by omega) k
   have hge:szX a+3<=(szX a+3)*t.2.2.2:=by
    have:=Int.mul_le_mul_of_nonneg_left (c:=szX a+3) h7.2.1 (by omega)
    omega
   have h2:=zO (tv a) t.2.2.2.toNat t.2.2.1
   have h3:(((flat (tv a)).length+3)*t.2.2.2.toNat:Int)<=(szX a+3)*t.2.2.2:=by
    rw[Int.toNat_of_nonneg (by omega)]
    exact Int.mul_le_mul_of_nonneg_right (by omega) (by omega)
   grind
  ·rw[if_neg k,sk]
   grind
 ·intro t a b e wa wb iha ihb hs
  have k:=no7 (.inl e)
  have hs':min ((1:Int)+(if t.1=7 then (szX a+3)*t.2.2.2 else szX a)+(if t.1=7 then (szX b+3)*t.2.2.2 else szX b)) 100000<100000:=hs
  show _<=min ((1:Int)+(if t.1=7 then (szX a+3)*t.2.2.2 else szX a)+(if t.1=7 then (szX b+3)*t.2.2.2 else szX b)) 100000
  grind[exp2,oc,aw,aH,aJ]
theorem yp {x:Tr Tok} : ∀(h n:Nat) (low:Int),h<n->h<=3->0<=low->low<=3->kj n x low (h:Int)=some (Gz x h low)
 | 0,n+1,low,_,_,_,_=>by
  rfl
 | h+1,n+1,low,h1,h2,h3,h4=>by
  rw[kj,if_neg (by grind),fg (n:=low - 1) (by omega) (by omega),fg (n:=((h+1:Nat):Int) - 1) (by omega) (by omega)]
  rw[show ((h+1:Nat):Int) - 1=(h:Int) from by omega,yp h n (max 0 (low - 1)) (by omega) (by omega) (by omega) (by omega)];simp[aa]
  rw[Gz]
  by_cases c:0<low
  ·grind
  ·rw[if_neg (by grind),if_neg c];rfl
theorem Ev {a b:List Tok} {t:Tok} (h:a.length+b.length<=1000000):jI a b t=some ((a++b)++ [t]):=by
 unfold jI sZ
 rw[aI (by simp[aw,aH,aJ];omega)];simp only[aa,List.nil_append]
 rw[aI (by omega)];simp only[aa]
 rw[aI (by simp[aw,aH,aJ];omega)];rfl
theorem JD {x:Tr Tok} : ∀(h n:Nat) (low:Int),h<n->h<=3->0<=low->low<=3->(flat x).length<=100000->kh n (flat x) low (h:Int)=some (flat (Gz x h low))
 | 0,n+1,low,_,_,_,_,_=>by
  rfl
 | h+1,n+1,low,h1,h2,h3,h4,h5=>by
  rw[kh,if_neg (by grind),fg (n:=low - 1) (by omega) (by omega),fg (n:=((h+1:Nat):Int) - 1) (by omega) (by omega)]
  rw[show ((h+1:Nat):Int) - 1=(h:Int) from by omega,JD h n (max 0 (low - 1)) (by omega) (by omega) (by omega) (by omega) h5];simp only[aa]
  have hl:=zO x h (max 0 (low - 1))
  have hl3:((flat x).length+3)*h<=100003*3:=Nat.mul_le_mul (by omega) (by omega)
  rw[Ev (by omega),Gz];simp only[aa]
  by_cases c:0<low
  ·simp_all[if_pos,oc]
  ·rw[if_neg (by grind),if_neg c,oc,oc,wL]
   unfold pY;simp only[aa]
   rw[Ev (by simp[aw,aH,aJ];omega)];rfl
theorem lV:1000000000000<=cF:=by rw[KZ];unfold aS;omega
theorem M8 {x:Tr Tok} (h:WT x): ∀n,(flat x).length<=n->bD n x=some (tv x):=by
 have hF:=lV
 refine WT.ind (p:=fun x=> ∀n,(flat x).length<=n->bD n x=some (tv x)) ?_ ?_ ?_ h
 ·intro t e n hn
  have k:=no7 (.inr e)
  match n,hn with
  | n+1,_ =>
   rw[bD];simp[iy,aa]
   rw[if_neg (by grind),Uw k]
   rfl
 ·intro t a e wa ih n hn
  rw[sk,aw] at hn
  match n,hn with
  | n+1,hn =>
   have ia:=ih n (by grind)
   rw[bD,Uv];simp only[iy,aa]
   rcases Gy e with ⟨k1,k2⟩ | ⟨k1,k2,k3⟩
   ·have hL:=aQ (f:=dh (bD n) (t,[a])) (fun i=>((i:Int),t.1,t.2.1,t.2.2.1,t.2.2.2,[tv a].take i)) 1 (fun i hi=>by
     obtain rfl:i=0:=by omega
     unfold dh
     rw[if_pos (by simp),aD (by omega) (by simp),uT];simp[aa]
     rw[ia];rfl) (by rfl) (by unfold aS;omega)
    grind[aj]
   ·have h7:=qw (show 0<=ar t by omega) k3
    rw[if_pos k2,if_pos k3,show aL [a] 0=some a from rfl];simp only[aa]
    rw[ia];simp only[aa]
    have:=yp (x:=tv a) t.2.2.2.toNat cF t.2.2.1 (by omega) (by omega) (by omega) (by omega)
    rw[Int.toNat_of_nonneg (by omega)] at this
    rw[this];rfl
 ·intro t a b e wa wb iha ihb n hn
  rw[oc,aw,aw] at hn
  have k:=no7 (.inl e)
  match n,hn with
  | n+1,hn =>
   have ia:=iha n (by grind)
   have ib:=ihb n (by grind)
   rw[bD,exp2 k];simp[iy,aa]
   have hL:=aQ (f:=dh (bD n) (t,[a,b])) (fun i=>((i:Int),t.1,t.2.1,t.2.2.1,t.2.2.2,[tv a,tv b].take i)) 2 (fun i hi=>by
    have:i=0\/i=1:=by omega
    rcases this with rfl | rfl
    ·unfold dh
     rw[if_pos (by simp),aD (by omega) (by simp),uT];simp[aa]
     rw[ia];rfl
    ·unfold dh
     rw[if_pos (by simp),aD (by omega) (by simp),JB];simp[aa]
     rw[ib];rfl) (by rfl) (by unfold aS;omega)
   grind[aj]
theorem JE {x:Tr Tok} (h:WT x): ∀n out,(flat x).length<=n->out.length+(flat x).length<=1000000->bt n x out=some (out++flat x):=by
 refine WT.ind (p:=fun x=> ∀n out,(flat x).length<=n->out.length+(flat x).length<=1000000->bt n x out=some (out++flat x)) ?_ ?_ ?_ h
 ·intro t e n out hn hl
  rw[tp] at hn hl⊢
  match n,hn with
  | n+1,_ =>
   rw[bt];simp[iy,aa]
   have hL:=aQ (f:=bS (bt n) (t,[])) (fun i=>((i:Int),out)) 0 (fun i hi=>by omega) (by rfl) (by unfold aS;omega)
   grind[aj,aI]
 ·intro t a e wa ih n out hn hl
  rw[sk] at hn hl⊢
  simp[aw,aH,aJ] at hn hl
  match n,hn with
  | n+1,hn =>
   rw[bt];simp[iy,aa]
   have hL:=aQ (f:=bS (bt n) (t,[a])) (fun i=>((i:Int),if i=0 then out else out++flat a)) 1 (fun i hi=>by
    obtain rfl:i=0:=by omega
    unfold bS
    rw[if_pos (by simp),aD (by omega) (by simp),uT];simp[aa,if_true]
    rw[ih n _ (by omega) (by omega)];rfl) (by rfl) (by unfold aS;omega)
   grind[aj,aI]
 ·intro t a b e wa wb iha ihb n out hn hl
  rw[oc] at hn hl⊢
  simp[aw,aH,aJ] at hn hl
  match n,hn with
  | n+1,hn =>
   rw[bt];simp[iy,aa]
   have hL:=aQ (f:=bS (bt n) (t,[a,b])) (fun i=>((i:Int),if i=0 then out else if i=1 then out++flat a else (out++flat a)++flat b)) 2 (fun i hi=>by
    have:i=0\/i=1:=by omega
    rcases this with rfl | rfl
    ·unfold bS
     rw[if_pos (by simp),aD (by omega) (by simp),uT];simp[aa,if_true]
     rw[iha n _ (by omega) (by omega)];rfl
    ·unfold bS
     rw[if_pos (by simp),aD (by omega) (by simp),JB];simp only[aa,if_true]
     rw[ihb n _ (by omega) (by grind)];rfl) (by rfl) (by unfold aS;omega)
   grind[aj,aI]
theorem M9 {x:Tr Tok} (h:WT x): ∀n,(flat x).length<=n->(flat x).length<=1000000->szX x<=50000->cd n (flat x)=some (flat (tv x)):=by
 have hF:=lV
 refine WT.ind (p:=fun x=> ∀n,(flat x).length<=n->(flat x).length<=1000000->szX x<=50000->cd n (flat x)=some (flat (tv x))) ?_ ?_ ?_ h
 ·intro t e n hn hl hs
  rw[tp] at hn hl⊢
  match n,hn with
  | n+1,_ =>
   have hk:=Ta e
   rw[cd]
   have:=(iF (A:=[]) (t:=t) (by simp)).1
   rw[List.nil_append] at this
   rw[this];simp only[aa]
   rw[M6 (.inr e)];simp_all[aa,Bool.false_eq_true,if_false,Uw,no7,tp]
 ·intro t a e wa ih n hn hl hs
  have hs':min ((1:Int)+(if t.1=7 then (szX a+3)*t.2.2.2 else szX a)) 100000<=50000:=hs
  rw[sk] at hn hl⊢
  simp[aw,aH,aJ] at hn hl
  match n,hn with
  | n+1,hn =>
   have hr:=kz wa
   have hsa:szX a<=50000:=by
    by_cases k:t.1=7
    ·rw[if_pos k] at hs'
     have h7:=qw (show 0<=ar t by omega) k
     have hge:szX a+3<=(szX a+3)*t.2.2.2:=by
      have:=Int.mul_le_mul_of_nonneg_left (c:=szX a+3) h7.2.1 (by omega)
      omega
     omega
    ·omega
   have hla:=zP wa (by omega)
   rw[cd]
   have ⟨l1,l2⟩:=iF (A:=flat a) (t:=t) (by omega)
   rw[l1];simp only[aa]
   rw[M6 (.inl e)];simp only[aa,Bool.false_eq_true,if_false]
   rw[l2,Int.toNat_natCast,List.take_left,ix (by grind)];simp only[aa]
   rw[ih n (by omega) (by omega) hsa,Uv];simp only[aa]
   rcases Gy e with ⟨k1,k2⟩ | ⟨k1,k2,k3⟩
   ·rw[if_pos k1,if_neg (by omega),Ev (by grind),sk];simp
   ·have h7:=qw (show 0<=ar t by omega) k3
    rw[if_neg (by grind),if_pos k2,if_pos k3]
    grind[JD,tv,cF,Int.toNat_of_nonneg]
 ·intro t a b e wa wb iha ihb n hn hl hs
  have k:=no7 (.inl e)
  have hs':min ((1:Int)+(if t.1=7 then (szX a+3)*t.2.2.2 else szX a)+(if t.1=7 then (szX b+3)*t.2.2.2 else szX b)) 100000<=50000:=hs
  rw[if_neg k,if_neg k] at hs'
  rw[oc] at hn hl⊢
  have ⟨p1,p2,p3,p4⟩:=ss (a:=a) (t:=t) wb hl
  simp[aw,aH,aJ] at hn hl
  match n,hn with
  | n+1,hn =>
   have hra:=kz wa
   have hrb:=kz wb
   have hla:=zP wa (by omega)
   have hlb:=zP wb (by omega)
   rw[cd]
   have ⟨l1,l2⟩:=iF (A:=flat a++flat b) (t:=t) (by grind)
   rw[l1];simp only[aa]
   rw[V6 e];simp only[aa,if_true]
   rw[l2,p1,p2,ix (by grind)];simp only[aa]
   rw[ix (by grind),p3,p4];simp only[aa]
   rw[iha n (by omega) (by omega) (by omega),ix (by grind)];simp only[aa]
   rw[ihb n (by omega) (by omega) (by omega)];simp only[aa]
   rw[Ev (by omega),exp2 k,oc];rfl
def Na (e:List Tok):List Tok×Bool:=
 if decide (e.length<=24)&&isX e then (if 5000<szX (uB e) then ([],false) else (if 400<(flat (tv (uB e))).length then ([],false) else (flat (tv (uB e)),true))) else ([],false)
theorem C2 {e:List Tok} (he:e.length<=1048576):jU e=some (Na e)/\jZ e=some (Na e):=by
 have hF:=lV
 unfold jU jZ Na
 rw[jP he,jQ he];simp only[aa]
 by_cases c:(decide (e.length<=24)&&isX e)=true
 ·rw[if_pos c,if_pos c,if_pos c,sr he];simp[aa]
  rw[ah] at c
  obtain ⟨x,h1,hw,rfl⟩:=BF c.2
  have h24:(flat x).length<=24:=by simpa using c.1
  rw[nt hw,Tb hw cF (by omega) (by omega),Q0 hw cF (by omega)];by_cases c2:5000<szX x
  ·grind
  ·have hl:=zP hw (by omega)
   rw[M9 hw cF (by omega) (by omega) (by omega),M8 hw cF (by omega)];simp[aa]
   unfold nO
   rw[JE (OJ hw) cF [] (by omega) (by grind)];grind
 grind
theorem Q2 {e:List Tok} (h:(Na e).2=true): ∃y,WT y/\(Na e).1=flat y/\(flat y).length<=400:=by
 unfold Na at h⊢
 split at h
 ·rename_i c
  rw[ah] at c
  obtain ⟨x,h1,hw,rfl⟩:=BF c.2
  rw[nt hw] at h⊢
  split at h
  ·cases h
  ·split at h
   ·cases h
   ·grind[OJ]
 grind
end D
namespace D
open Go.RowKit
abbrev Lg:=List Nat->Prop
def w4 (A B:Lg):Lg:=fun w=> ∃u v,w=u++v/\A u/\B v
def Ag (A:Lg):Nat->Lg
 | 0=>fun w=>w= []
 | n+1=>w4 A (Ag A n)
def GB (A:Lg):Lg:=fun w=> ∃n,Ag A n w
def opL (t:Tok):List Lg->Lg
 | [] =>fun w=>(t.1=2/\w= [])\/(t.1=3/\w= [t.2.1.toNat])
 | [A] =>fun w=>(t.1=6/\GB A w)\/(t.1=7/\ ∃n:Nat,t.2.2.1<=(n:Int)/\(n:Int)<=t.2.2.2/\Ag A n w)
 | [A,B] =>fun w=>(t.1=4/\w4 A B w)\/(t.1=5/\(A w\/B w))
 | _=>fun _=>False
mutual
def LX:Tr Tok->Lg
 | .nil=>fun _=>False
 | .node t ks=>opL t (LXL ks)
def LXL:List (Tr Tok)->List Lg
 | [] =>[]
 | k::ks=>LX k::LXL ks
end
theorem LX0 (t:Tok):LX (.node t [])=opL t []:=by rw[LX,LXL]
theorem LX1 (t:Tok) (a:Tr Tok):LX (.node t [a])=opL t [LX a]:=by rw[LX,LXL,LXL]
theorem LX2 (t:Tok) (a b:Tr Tok):LX (.node t [a,b])=opL t [LX a,LX b]:=by rw[LX,LXL,LXL,LXL]
theorem GC {A B C:Lg} :w4 (w4 A B) C=w4 A (w4 B C):=by
 funext w
 apply propext
 constructor
 ·rintro ⟨x,y,rfl,⟨u,v,rfl,h1,h2⟩,h3⟩
  exact ⟨u,v++y,by simp,h1,v,y,rfl,h2,h3⟩
 ·rintro ⟨x,y,rfl,h1,u,v,rfl,h2,h3⟩
  exact ⟨x++u,v,by simp,⟨x,u,rfl,h1,h2⟩,h3⟩
theorem Nb {A:Lg} :w4 A (fun w=>w= [])=A:=by
 funext w
 apply propext
 constructor
 ·rintro ⟨u,v,rfl,h1,rfl⟩
  rw[List.append_nil];exact h1
 ·intro h
  exact ⟨w,[],by simp,h,rfl⟩
theorem Nc {A:Lg} :w4 (fun w=>w= []) A=A:=by
 funext w
 apply propext
 constructor
 ·rintro ⟨u,v,rfl,rfl,h1⟩
  exact h1
 ·intro h
  exact ⟨[],w,rfl,rfl,h⟩
theorem pI {A:Lg} : ∀n,Ag A (n+1)=w4 (Ag A n) A
 | 0=>by
  show w4 A (fun w=>w= [])=w4 (fun w=>w= []) A
  rw[Nb,Nc]
 | n+1=>by
  show w4 A (Ag A (n+1))=w4 (w4 A (Ag A n)) A
  rw[pI n,GC]
end D
namespace D
open Go.RowKit
def seg (w:List Nat) (i j:Nat):List Nat:=(w.take j).drop i
theorem tw {w:List Nat} {i j:Nat} (h:j<=w.length):(seg w i j).length=j - i:=by
 unfold seg;rw[bc,aA];omega
theorem JF (w:List Nat):seg w 0 w.length=w:=by unfold seg;simp
theorem Ew {w:List Nat} {i j:Nat} (n:Nat) (hj:i+n<=j):(seg w i j).take n=seg w i (i+n):=by
 unfold seg
 rw[List.take_drop,List.take_take,Nat.min_eq_left hj]
theorem Ex {w:List Nat} {i j:Nat} (n:Nat):(seg w i j).drop n=seg w (i+n) j:=by
 unfold seg
 rw[List.drop_drop]
theorem JG {w:List Nat} {i j k:Nat} (h1:i<=k) (h2:k<=j):seg w i k++seg w k j=seg w i j:=by
 have e1:seg w i k=(seg w i j).take (k - i):=by rw[Ew (k - i) (by omega),show i+(k - i)=k by omega]
 have e2:seg w k j=(seg w i j).drop (k - i):=by rw[Ex,show i+(k - i)=k by omega]
 rw[e1,e2,List.take_append_drop]
theorem JH {A B:Lg} {w:List Nat} {i j:Nat} (h:i<=j) (hj:j<=w.length):w4 A B (seg w i j)↔ ∃k,i<=k/\k<=j/\A (seg w i k)/\B (seg w k j):=by
 constructor
 ·rintro ⟨u,v,e,h1,h2⟩
  have hl:=congrArg List.length e
  rw[tw hj,aw] at hl
  refine ⟨i+u.length,by omega,by omega,?_,?_⟩
  ·rw[<-Ew (j:=j) u.length (by omega),e,List.take_left];exact h1
  ·rw[<-Ex u.length,e,List.drop_left];exact h2
 ·rintro ⟨k,h1,h2,h3,h4⟩
  exact ⟨_,_,(JG h1 h2).symm,h3,h4⟩
theorem BH {A:Lg} : ∀(n:Nat) (u:List Nat),Ag A n u-> ∃j,j<=u.length/\Ag A j u
 | 0,u,h=>by
  obtain rfl:u= []:=h
  exact ⟨0,aF _,rfl⟩
 | n+1,u,h=>by
  obtain ⟨a,b,rfl,h1,h2⟩:=h
  obtain ⟨j,h3,h4⟩:=BH n b h2
  cases a with
  | nil=>exact ⟨j,h3,h4⟩
  | cons x a=>exact ⟨j+1,by simp;omega,x::a,b,rfl,h1,h4⟩
theorem GD {A:Lg} {u:List Nat} {n:Nat} (h:u.length<=n):GB A u↔ ∃j,j<=n/\Ag A j u:=by
 constructor
 ·rintro ⟨m,hm⟩
  obtain ⟨j,h1,h2⟩:=BH m u hm
  exact ⟨j,by omega,h2⟩
 ·rintro ⟨j,-,h2⟩;exact ⟨j,h2⟩
def LetL (A:Lg) (p:Nat->Prop):Prop:= ∀w,A w-> ∀k∈w,p k
theorem LetL.cat {A B:Lg} {p:Nat->Prop} (ha:LetL A p) (hb:LetL B p):LetL (w4 A B) p:=by
 rintro w ⟨u,v,rfl,h1,h2⟩ k hk
 rcases aC hk with hk | hk
 ·exact ha u h1 k hk
 ·exact hb v h2 k hk
theorem LetL.pow {A:Lg} {p:Nat->Prop} (ha:LetL A p): ∀n,LetL (Ag A n) p
 | 0=>by rintro w rfl k hk;cases hk
 | n+1=>ha.cat (LetL.pow ha n)
def MtR (n:Nat) (r:Nat->Nat->Prop) (M:List (List Bool)):Prop:=M.length=n/\(∀x∈M,x.length=n)/\ ∀i j,i<n->j<n->(nth (nth M (i:Int)) (j:Int)=true↔r i j)
theorem wM {α:Type} [Inhabited α] {xs:List α} {i k:Nat} {v:α} (h:i<xs.length):nth (xs.set i v) (k:Int)=if k=i then v else nth xs (k:Int):=by
 unfold nth
 rw[Int.toNat_natCast,List.getD_eq_getElem?_getD,List.getD_eq_getElem?_getD,List.getElem?_set]
 by_cases c:k=i
 ·rw[if_pos c.symm,if_pos h,if_pos c];rfl
 ·rw[if_neg (fun e=>c e.symm),if_neg c]
theorem MtR.row {n:Nat} {r:Nat->Nat->Prop} {M:List (List Bool)} (h:MtR n r M) {i:Nat} (hi:i<n):(nth M (i:Int)).length=n:=h.2.1 _ (dD (by omega) (by have:=h.1;omega))
theorem MtR.ext {n:Nat} {r r':Nat->Nat->Prop} {M:List (List Bool)} (h:MtR n r M) (e: ∀i j,i<n->j<n->(r i j↔r' i j)):MtR n r' M:=⟨h.1,h.2.1,fun i j hi hj=>(h.2.2 i j hi hj).trans (e i j hi hj)⟩
theorem MtR.set {n:Nat} {r:Nat->Nat->Prop} {M:List (List Bool)} (h:MtR n r M) {i j:Nat} (hi:i<n) (hj:j<n) (v:Bool):MtR n (fun a b=>if a=i/\b=j then v=true else r a b) (M.set i ((nth M (i:Int)).set j v)):=by
 have hr:=h.row hi
 refine ⟨by rw[List.length_set];exact h.1,fun x hx=>?_,fun a b ha hb=>?_⟩
 ·rcases List.mem_or_eq_of_mem_set hx with hx | rfl
  ·exact h.2.1 x hx
  ·rw[List.length_set];exact hr
 ·show _↔if a=i/\b=j then v=true else r a b
  rw[wM (by have:=h.1;omega)]
  by_cases c:a=i
  ·subst c
   rw[if_pos rfl,wM (by omega)]
   by_cases d:b=j
   ·rw[if_pos d,if_pos ⟨rfl,d⟩]
   ·rw[if_neg d,if_neg (fun c=>d c.2)];exact h.2.2 a b ha hb
  ·rw[if_neg c,if_neg (fun d=>c d.1)];exact h.2.2 a b ha hb
theorem MtR.at {n:Nat} {r:Nat->Nat->Prop} {M:List (List Bool)} (h:MtR n r M) {i j:Nat} (hi:i<n) (hj:j<n):aL M (i:Int)=some (nth M (i:Int))/\aL (nth M (i:Int)) (j:Int)=some (nth (nth M (i:Int)) (j:Int)):=⟨aD (by omega) (by have:=h.1;omega),aD (by omega) (by have:=h.row hi;omega)⟩
def SqL (w:List Nat) (A:Lg):Nat->Nat->Prop:=fun i j=>i<=j/\A (seg w i j)
theorem SqL.cat {w:List Nat} {A B:Lg} {i j:Nat} (hj:j<w.length+1):SqL w (w4 A B) i j↔ ∃k,k<w.length+1/\SqL w A i k/\SqL w B k j:=by
 constructor
 ·rintro ⟨h,hc⟩
  obtain ⟨k,h1,h2,h3,h4⟩:=(JH h (by omega)).1 hc
  exact ⟨k,by omega,⟨h1,h3⟩,h2,h4⟩
 ·rintro ⟨k,hk,⟨h1,h3⟩,h2,h4⟩
  exact ⟨by omega,(JH (by omega) (by omega)).2 ⟨k,h1,h2,h3,h4⟩⟩
theorem SqL.nil {w:List Nat} {i j:Nat} (hj:j<w.length+1):SqL w (fun u=>u= []) i j↔i=j:=by
 constructor
 ·rintro ⟨h,e⟩
  have:=congrArg List.length e
  rw[tw (by omega)] at this
  simp at this
  omega
 ·rintro rfl
  exact ⟨aF _,List.eq_nil_of_length_eq_zero (by rw[tw (by omega)];omega)⟩
theorem SqL.letter {w:List Nat} {c i j:Nat} (hj:j<w.length+1):SqL w (fun u=>u= [c]) i j↔j=i+1/\w[i]? =some c:=by
 have key: ∀i,i+1<w.length+1->seg w i (i+1)= [w[i]?.getD 0]:=fun i hi=>by
  have h:i<w.length:=by omega
  unfold seg
  rw[List.take_succ_eq_append_getElem h,List.drop_append_of_le_length (by rw[aA];omega),List.drop_of_length_le (by rw[aA];omega)]
  simp[h]
 constructor
 ·rintro ⟨h,e⟩
  have hl:=congrArg List.length e
  rw[tw (by omega)] at hl
  simp at hl
  obtain rfl:j=i+1:=by omega
  rw[key i hj] at e
  have h:i<w.length:=by omega
  refine ⟨rfl,?_⟩
  simp[h] at e
  simp[h,e]
 ·rintro ⟨rfl,e⟩
  refine ⟨by omega,?_⟩
  rw[key i hj,e];rfl
theorem Td {x:Tr Tok} (h:WT x):LetL (LX x) fun k=> ∃t∈flat x,t.1=3/\k=t.2.1.toNat:=by
 refine WT.ind (p:=fun x=>LetL (LX x) fun k=> ∃t∈flat x,t.1=3/\k=t.2.1.toNat) ?_ ?_ ?_ h
 ·intro t e w hw k hk
  rw[LX0] at hw
  rcases hw with ⟨-,rfl⟩ | ⟨h3,rfl⟩
  ·cases hk
  ·exact ⟨t,by rw[tp];simp,h3,ak hk⟩
 ·intro t a e wa ih w hw k hk
  have ih':LetL (LX a) fun k=> ∃t'∈flat (.node t [a]),t'.1=3/\k=t'.2.1.toNat:=fun w hw k hk=>by
   obtain ⟨t',h1,h2⟩:=ih w hw k hk
   exact ⟨t',by rw[sk];simp[h1],h2⟩
  rw[LX1] at hw
  rcases hw with ⟨-,n,hn⟩ | ⟨-,n,-,-,hn⟩
  ·exact ih'.pow n w hn k hk
  ·exact ih'.pow n w hn k hk
 ·intro t a b e wa wb iha ihb w hw k hk
  have ha:LetL (LX a) fun k=> ∃t'∈flat (.node t [a,b]),t'.1=3/\k=t'.2.1.toNat:=fun w hw k hk=>by
   obtain ⟨t',h1,h2⟩:=iha w hw k hk
   exact ⟨t',by rw[oc];simp[h1],h2⟩
  have hb:LetL (LX b) fun k=> ∃t'∈flat (.node t [a,b]),t'.1=3/\k=t'.2.1.toNat:=fun w hw k hk=>by
   obtain ⟨t',h1,h2⟩:=ihb w hw k hk
   exact ⟨t',by rw[oc];simp[h1],h2⟩
  rw[LX2] at hw
  rcases hw with ⟨-,hw⟩ | ⟨-,hw | hw⟩
  ·exact ha.cat hb w hw k hk
  ·exact ha w hw k hk
  ·exact hb w hw k hk
end D
namespace D
open Go.RowKit
theorem V7 {n:Nat} (hn:n<=100):mkI 1 (n:Int) false=some (List.replicate n false):=by unfold mkI;rw[if_pos (by omega)];simp
theorem Q3 {n j:Nat} (hj:j<n):nth (List.replicate n false) (j:Int)=false:=by rw[bB (by simpa using hj)];simp
theorem V8 {n i:Nat} (same:Bool) (hi:i<n) {j:Nat} (hj:j<n):nth ((List.replicate n false).set i same) (j:Int)=(if j=i then same else false):=by
 rw[wM (by simpa using hi),Q3 hj]
theorem Ey {n:Nat} (hn:n<=100) (same:Bool): ∃M,dK (n:Int) same=some M/\MtR n (fun i j=>i=j/\same=true) M:=by
 obtain ⟨s,e,h1,h2,h3,h4⟩:=be (f:=kR (n:Int) same) (fun i s=>s.2=(i:Int)/\s.1.length=i/\(∀x∈s.1,x.length=n)/\ ∀a b,a<i->b<n->(nth (nth s.1 (a:Int)) (b:Int)=true↔a=b/\same=true)) n (fun i s hi hI=>by
  obtain ⟨M,k⟩:=s
  obtain ⟨h1,h2,h3,h4⟩:=hI
  have h1:k=(i:Int):=h1
  subst h1
  unfold kR
  simp only
  rw[if_pos (decide_eq_true (by omega)),V7 hn];simp only[aa]
  rw[aD (by omega) (by simp;omega)];simp only[aa]
  rw[aI (by simp only[aH,aJ];have:M.length=i:=h2;omega)];simp only[aa]
  refine ⟨_,rfl,af (by omega),by simp;exact h2,fun x hx=>?_,fun a b ha hb=>?_⟩
  ·rcases aC hx with hx | hx
   ·exact h3 x hx
   ·rw[ak hx];simp
  ·by_cases c:a<i
   ·rw[gp (by omega) (by have:M.length=i:=h2;omega)];exact h4 a b c hb
   ·obtain rfl:a=i:=by omega
    have e1:nth (M++ [(List.replicate n false).set (a:Int).toNat same]) (a:Int)=(List.replicate n false).set a same:=by
     rw[bB (by simp;have:M.length=a:=h2;omega)]
     simp[show M.length=a from h2]
    show nth (nth (M++ [_]) (a:Int)) (b:Int)=true↔_
    rw[e1,V8 same hi hb]
    by_cases c:b=a
    ·rw[if_pos c];simp[c]
    ·rw[if_neg c];exact ⟨fun h=>(by cases h),fun h=>absurd h.1.symm c⟩) (fun s hI=>by
  obtain ⟨M,k⟩:=s
  have h1:k=(n:Int):=hI.1
  subst h1
  unfold kR
  simp) (s:=(([] :List (List Bool)),0)) ⟨rfl,rfl,fun x hx=>(by cases hx),fun a b ha=>by omega⟩ (fN (by omega))
 unfold dK
 rw[aj e]
 exact ⟨_,rfl,h2,h3,h4⟩
theorem Ez {n:Nat} (hn:n<=100) (same:Bool): ∃M,jl (n:Int) same=some M/\MtR n (fun i j=>i=j/\same=true) M:=by
 unfold jl
 have e0:mkI 24 (n:Int) ([] :List Bool)=some (List.replicate n []):=by unfold mkI;rw[if_pos (by omega)];simp
 rw[e0];simp only[aa]
 obtain ⟨s,e,h1,h2,h3⟩:=be (f:=nN (n:Int) same (List.replicate n [])) (fun i s=>s.2=(i:Int)/\s.1.length=n/\ ∀a,a<i->(nth s.1 (a:Int)).length=n/\ ∀b,b<n->(nth (nth s.1 (a:Int)) (b:Int)=true↔a=b/\same=true)) n (fun i s hi hI=>by
  obtain ⟨M,k⟩:=s
  obtain ⟨h1,h2,h3⟩:=hI
  have h1:k=(i:Int):=h1
  have h2:M.length=n:=h2
  subst h1
  unfold nN
  simp only
  rw[if_pos (by simp;omega),V7 hn];simp only[aa]
  have g2:aL (M.set (i:Int).toNat (List.replicate n false)) (i:Int)=some (List.replicate n false):=by
   rw[aD (by omega) (by simp;omega),Int.toNat_natCast,wM (by omega),if_pos rfl]
  rw[aD (by omega) (by omega)];simp only[aa]
  rw[g2];simp only[aa]
  rw[aD (by omega) (by simp;omega)];simp only[aa]
  refine ⟨_,rfl,af (by omega),by simp;exact h2,fun a ha=>?_⟩
  simp only[Int.toNat_natCast,List.set_set]
  rw[wM (by omega)]
  by_cases c:a=i
  ·subst c
   rw[if_pos rfl]
   refine ⟨by simp,fun b hb=>?_⟩
   rw[V8 same hi hb]
   by_cases c:b=a
   ·rw[if_pos c];simp[c]
   ·rw[if_neg c];exact ⟨fun h=>(by cases h),fun h=>absurd h.1.symm c⟩
  ·rw[if_neg c];exact h3 a (by omega)) (fun s hI=>by
  obtain ⟨M,k⟩:=s
  have h1:k=(n:Int):=hI.1
  subst h1
  unfold nN
  simp) (s:=(List.replicate n ([] :List Bool),0)) ⟨rfl,by simp,fun a ha=>by omega⟩ (fN (by omega))
 rw[aj e]
 refine ⟨_,rfl,h2,fun x hx=>?_,fun i j hi hj=>(h3 i hi).2 j hj⟩
 obtain ⟨a,ha,rfl⟩:=List.getElem_of_mem hx
 rw[<-bB ha]
 exact (h3 a (by omega)).1
theorem MtR.put {n:Nat} {r:Nat->Nat->Prop} {M:List (List Bool)} (h:MtR n r M) {i j:Nat} (hi:i<n) (hj:j<n) {v:Bool} {p:Prop} (hv:v=true↔p):MtR n (fun a b=>if a=i/\b=j then p else r a b) (M.set (i:Int).toNat ((nth M (i:Int)).set (j:Int).toNat v)):=by
 rw[Int.toNat_natCast,Int.toNat_natCast]
 refine (h.set hi hj v).ext fun a b _ _=>?_
 by_cases c:a=i/\b=j
 ·rw[if_pos c,if_pos c];exact hv
 ·rw[if_neg c,if_neg c]
theorem Nd {n:Nat} (hn:n<=100) {r q:Nat->Nat->Prop} {A B:List (List Bool)} (ha:MtR n r A) (hb:MtR n q B): ∃M,jM A B=some M/\MtR n (fun i j=>r i j\/q i j) M:=by
 obtain ⟨M0,e0,k0⟩:=Ez hn false
 unfold jM
 rw[ha.1,e0];simp only[aa]
 obtain ⟨s,e,h1,h2⟩:=be (f:=kZ A B) (fun i s=>s.2=(i:Int)/\MtR n (fun a b=>a<i/\(r a b\/q a b)) s.1) n (fun i s hi hI=>by
  obtain ⟨M,k⟩:=s
  obtain ⟨h1,h2⟩:=hI
  have h1:k=(i:Int):=h1
  subst h1
  have hrow:=ha.row hi
  obtain ⟨s2,e2,g1,g2⟩:=be (f:=kY A B (M,(i:Int)) (nth A (i:Int))) (fun j s=>s.2=(j:Int)/\MtR n (fun a b=>(a<i\/(a=i/\b<j))/\(r a b\/q a b)) s.1) n (fun j s hj hI=>by
   obtain ⟨M,k⟩:=s
   obtain ⟨h1,h2⟩:=hI
   have h1:k=(j:Int):=h1
   subst h1
   unfold kY
   simp only
   rw[if_pos (by simp;omega),(h2.at hi hj).1,(ha.at hi hj).1];simp only[aa]
   rw[(ha.at hi hj).2];simp only[aa]
   have fin: ∀v:Bool,(v=true↔r i j\/q i j)->MtR n (fun a b=>(a<i\/(a=i/\b<j+1))/\(r a b\/q a b)) (M.set (i:Int).toNat ((nth M (i:Int)).set (j:Int).toNat v)):=fun v hv=>(h2.put hi hj hv).ext fun a b _ _=>by
    by_cases c:a=i/\b=j
    ·rw[if_pos c,c.1,c.2];exact ⟨fun h=>⟨.inr ⟨rfl,by omega⟩,h⟩,fun h=>h.2⟩
    ·rw[if_neg c]
     exact ⟨fun h=>⟨h.1.imp id (fun k=>⟨k.1,by omega⟩),h.2⟩,fun h=>⟨h.1.imp id (fun k=>⟨k.1,by have:=k.2;have:=k.1;omega⟩),h.2⟩⟩
   by_cases c:nth (nth A (i:Int)) (j:Int)=true
   ·rw[if_pos c,(h2.at hi hj).2];simp only[aa]
    exact ⟨_,rfl,af (by omega),fin true ⟨fun _=>.inl ((ha.2.2 i j hi hj).1 c),fun _=>rfl⟩⟩
   ·rw[if_neg c,(hb.at hi hj).1];simp only[aa]
    rw[(hb.at hi hj).2,(h2.at hi hj).2];simp only[aa]
    exact ⟨_,rfl,af (by omega),fin _ ((hb.2.2 i j hi hj).trans ⟨.inr,fun h=>h.resolve_left fun h=>c ((ha.2.2 i j hi hj).2 h)⟩)⟩) (fun s hI=>by
   obtain ⟨M,k⟩:=s
   have h1:k=(n:Int):=hI.1
   subst h1
   unfold kY
   simp only
   rw[if_neg (by simp;omega)]) (s:=(M,0)) ⟨rfl,h2.ext fun a b _ _=>⟨fun h=>⟨.inl h.1,h.2⟩,fun h=>⟨h.1.resolve_right (by omega),h.2⟩⟩⟩ (fN (by omega))
  unfold kZ
  simp only
  rw[if_pos (by simp;have:=ha.1;omega),(ha.at hi hi).1];simp only[aa]
  rw[aj e2]
  exact ⟨_,rfl,af (by omega),g2.ext fun a b _ hb=>⟨fun h=>⟨by omega,h.2⟩,fun h=>⟨by omega,h.2⟩⟩⟩) (fun s hI=>by
  obtain ⟨M,k⟩:=s
  have h1:k=(n:Int):=hI.1
  subst h1
  unfold kZ
  simp only
  rw[if_neg (by simp;have:=ha.1;omega)]) (s:=(M0,0)) ⟨rfl,k0.ext fun a b _ _=>⟨fun h=>(by cases h.2),fun h=>by omega⟩⟩ (fN (by omega))
 rw[aj e]
 exact ⟨_,rfl,h2.ext fun a b ha _=>⟨fun h=>h.2,fun h=>⟨ha,h⟩⟩⟩
theorem Te (inst:Decidable True): @chk True inst=some ():=by unfold chk;simp
theorem Tf {n:Nat} (hn:n<=100) {R q:Nat->Nat->Prop} {B M:List (List Bool)} (hb:MtR n q B) (hM:MtR n R M) {i k j:Nat} (hi:i<n) (hk:k<n) (hj:j<n) (Z:List (List Bool)) :
  ∃v:Bool,(v=true↔R i j\/q k j)/\gK B ((i:Int),Z) ((k:Int),Z) (nth B (k:Int)) ((j:Int),M)=some (.nxt (((j+1:Nat):Int),M.set (i:Int).toNat ((nth M (i:Int)).set (j:Int).toNat v))):=by
 have hl:=hM.1
 have hrow:=hb.row hk
 have c1:chk ((i:Int)<((M.set (i:Int).toNat ([] :List Bool)).length:Int))=some ():=if_pos (by simp;omega)
 unfold gK
 simp only
 rw[if_pos (by simp;omega),(hM.at hi hj).1];simp only[aa]
 rw[c1];simp only[aa]
 simp only[Te,aa]
 rw[(hM.at hi hj).2];simp only[aa]
 rw[af (show j<9223372036854775807 by have:=hi;omega)]
 by_cases c:nth (nth M (i:Int)) (j:Int)=true
 ·rw[if_pos c]
  exact ⟨true,⟨fun _=>.inl ((hM.2.2 i j hi hj).1 c),fun _=>rfl⟩,rfl⟩
 ·rw[if_neg c,(hb.at hk hj).1];simp only[aa]
  rw[(hb.at hk hj).2]
  exact ⟨_,(hb.2.2 k j hk hj).trans ⟨.inr,fun h=>h.resolve_left fun h=>c ((hM.2.2 i j hi hj).2 h)⟩,rfl⟩
theorem Nf {n:Nat} (hn:n<=100) {r q:Nat->Nat->Prop} {A B:List (List Bool)} (ha:MtR n r A) (hb:MtR n q B): ∃M,jL A B=some M/\MtR n (fun i j=> ∃k,k<n/\r i k/\q k j) M:=by
 obtain ⟨M0,e0,k0⟩:=Ez hn false
 unfold jL
 rw[ha.1,e0];simp only[aa]
 obtain ⟨s,e,h1,h2⟩:=be (f:=kX A B) (fun i s=>s.1=(i:Int)/\MtR n (fun a b=>a<i/\ ∃k,k<n/\r a k/\q k b) s.2) n (fun i s hi hI=>by
  obtain ⟨x,M⟩:=s
  obtain ⟨h1,h2⟩:=hI
  have h1:x=(i:Int):=h1
  subst h1
  have hrow:=ha.row hi
  obtain ⟨s2,e2,g1,g2⟩:=be (f:=kW A B ((i:Int),M) (nth A (i:Int))) (fun k s=>s.1=(k:Int)/\MtR n (fun a b=>(a<i/\ ∃k,k<n/\r a k/\q k b)\/(a=i/\ ∃k',k'<k/\r i k'/\q k' b)) s.2) n (fun k s hk hI=>by
   obtain ⟨x,M2⟩:=s
   obtain ⟨h1,h2⟩:=hI
   have h1:x=(k:Int):=h1
   subst h1
   unfold kW
   simp only
   rw[if_pos (by simp;omega),(ha.at hi hk).1];simp only[aa]
   rw[(ha.at hi hk).2];simp only[aa]
   by_cases c:nth (nth A (i:Int)) (k:Int)=true
   ·have hr:=(ha.2.2 i k hi hk).1 c
    obtain ⟨s3,e3,f1,f2⟩:=be (f:=gK B ((i:Int),M) ((k:Int),M2) (nth B (k:Int))) (fun j s=>s.1=(j:Int)/\MtR n (fun a b=>((a<i/\ ∃k,k<n/\r a k/\q k b)\/(a=i/\ ∃k',k'<k/\r i k'/\q k' b))\/(a=i/\b<j/\q k b)) s.2) n (fun j s hj hI=>by
     obtain ⟨x,M3⟩:=s
     obtain ⟨h1,h3⟩:=hI
     have h1:x=(j:Int):=h1
     subst h1
     obtain ⟨v,hv,ev⟩:=Tf hn hb h3 hi hk hj M
     refine ⟨_,(show gK B ((i:Int),M) ((k:Int),M2) (nth B (k:Int)) ((j:Int),M3)=_ from ev),rfl,(h3.put hi hj hv).ext fun a b _ _=>?_⟩
     by_cases d:a=i/\b=j
     ·rw[if_pos d,d.1,d.2]
      exact ⟨fun h=>h.elim (fun h=>h.elim .inl fun h=>.inr ⟨rfl,by omega,h.2.2⟩) fun h=>.inr ⟨rfl,by omega,h⟩,fun h=>h.elim (fun h=>.inl (.inl h)) fun h=>.inr h.2.2⟩
     ·rw[if_neg d]
      exact ⟨fun h=>h.imp id fun h=>⟨h.1,by omega,h.2.2⟩,fun h=>h.imp id fun h=>⟨h.1,by have:=h.1;have:=h.2.1;omega,h.2.2⟩⟩) (fun s hI=>by
     obtain ⟨x,M3⟩:=s
     have h1:x=(n:Int):=hI.1
     subst h1
     have:=hb.row hk
     unfold gK
     simp only
     rw[if_neg (by simp;omega)]) (s:=(0,M2)) ⟨rfl,h2.ext fun a b _ _=>⟨.inl,fun h=>h.resolve_right fun h=>by omega⟩⟩ (fN (by omega))
    rw[if_pos c,(hb.at hk hk).1];simp only[aa]
    rw[aj e3];simp only[aa]
    refine ⟨_,rfl,af (by omega),f2.ext fun a b _ hb'=>⟨fun h=>?_,fun h=>?_⟩⟩
    ·rcases h with (h | ⟨h1,k',h2,h3⟩) | ⟨h1,-,h3⟩
     ·exact .inl h
     ·exact .inr ⟨h1,k',by omega,h3⟩
     ·exact .inr ⟨h1,k,by omega,hr,h3⟩
    ·rcases h with h | ⟨p1,k',p2,p3⟩
     ·exact .inl (.inl h)
     ·by_cases d:k'=k
      ·subst d;exact .inr ⟨p1,hb',p3.2⟩
      ·exact .inl (.inr ⟨p1,k',by omega,p3⟩)
   ·rw[if_neg c];simp only[aa]
    refine ⟨_,rfl,af (by omega),h2.ext fun a b _ _=>⟨fun h=>h.imp id fun ⟨h1,k',h2,h3⟩=>⟨h1,k',by omega,h3⟩,fun h=>h.imp id fun ⟨g1,k',g2,g3⟩=>⟨g1,k',?_,g3⟩⟩⟩
    by_cases d:k'=k
    ·subst d;exact absurd ((ha.2.2 i k' hi hk).2 g3.1) c
    ·omega) (fun s hI=>by
   obtain ⟨x,M2⟩:=s
   have h1:x=(n:Int):=hI.1
   subst h1
   unfold kW
   simp only
   rw[if_neg (by simp;omega)]) (s:=(0,M)) ⟨rfl,h2.ext fun a b _ _=>⟨.inl,fun h=>h.resolve_right fun ⟨_,k',h,_⟩=>by omega⟩⟩ (fN (by omega))
  unfold kX
  simp only
  rw[if_pos (by simp;have:=ha.1;omega),(ha.at hi hi).1];simp only[aa]
  rw[aj e2]
  exact ⟨_,rfl,af (by omega),g2.ext fun a b _ _=>⟨fun h=>h.elim (fun h=>⟨by omega,h.2⟩) fun ⟨h1,h⟩=>⟨by omega,by rw[h1];exact h⟩,fun ⟨h1,h⟩=>by
   by_cases d:a=i
   ·subst d;exact .inr ⟨rfl,h⟩
   ·exact .inl ⟨by omega,h⟩⟩⟩) (fun s hI=>by
  obtain ⟨x,M⟩:=s
  have h1:x=(n:Int):=hI.1
  subst h1
  unfold kX
  simp only
  rw[if_neg (by simp;have:=ha.1;omega)]) (s:=(0,M0)) ⟨rfl,k0.ext fun a b _ _=>⟨fun h=>(by cases h.2),fun h=>by omega⟩⟩ (fN (by omega))
 rw[aj e]
 exact ⟨_,rfl,h2.ext fun a b ha _=>⟨fun h=>h.2,fun h=>⟨ha,h⟩⟩⟩
theorem Ng {n:Nat} (hn:n<=100) {r q:Nat->Nat->Prop} {A B:List (List Bool)} (ha:MtR n r A) (hb:MtR n q B) (tr: ∀a b,r a b->a<=b) (tq: ∀a b,q a b->a<=b): ∃M,iM A B=some M/\MtR n (fun i j=>r i j\/q i j) M:=by
 obtain ⟨M0,e0,k0⟩:=Ey hn false
 have hal:=ha.1
 unfold iM
 rw[ha.1,e0];simp only[aa]
 obtain ⟨s,e,h1,h2⟩:=be (f:=jg A B) (fun i s=>s.2=(i:Int)/\MtR n (fun a b=>a<i/\(r a b\/q a b)) s.1) n (fun i s hi hI=>by
  obtain ⟨M,k⟩:=s
  obtain ⟨h1,h2⟩:=hI
  have h1:k=(i:Int):=h1
  subst h1
  obtain ⟨s2,e2,g1,g2⟩:=be (f:=jf A B (M,(i:Int))) (fun t s=>s.2=((i+t:Nat):Int)/\MtR n (fun a b=>(a<i\/(a=i/\b<i+t))/\(r a b\/q a b)) s.1) (n - i) (fun t s ht hI=>by
   obtain ⟨M,k⟩:=s
   obtain ⟨h1,h2⟩:=hI
   have h1:k=((i+t:Nat):Int):=h1
   subst h1
   have hj:i+t<n:=by omega
   unfold jf
   simp only
   rw[if_pos (decide_eq_true (by omega)),(h2.at hi hj).1,(ha.at hi hj).1];simp only[aa]
   rw[(ha.at hi hj).2];simp only[aa]
   have fin: ∀v:Bool,(v=true↔r i (i+t)\/q i (i+t))->MtR n (fun a b=>(a<i\/(a=i/\b<i+(t+1)))/\(r a b\/q a b)) (M.set (i:Int).toNat ((nth M (i:Int)).set ((i+t:Nat):Int).toNat v)):=fun v hv=>(h2.put hi hj hv).ext fun a b _ _=>by
    by_cases c:a=i/\b=i+t
    ·rw[if_pos c,c.1,c.2];exact ⟨fun h=>⟨.inr ⟨rfl,by omega⟩,h⟩,fun h=>h.2⟩
    ·rw[if_neg c]
     exact ⟨fun h=>⟨h.1.imp id (fun k=>⟨k.1,by omega⟩),h.2⟩,fun h=>⟨h.1.imp id (fun k=>⟨k.1,by have:=k.2;have:=k.1;omega⟩),h.2⟩⟩
   by_cases c:nth (nth A (i:Int)) ((i+t:Nat):Int)=true
   ·rw[if_pos c,(h2.at hi hj).2];simp only[aa]
    exact ⟨_,rfl,af (by omega),fin true ⟨fun _=>.inl ((ha.2.2 i _ hi hj).1 c),fun _=>rfl⟩⟩
   ·rw[if_neg c,(hb.at hi hj).1];simp only[aa]
    rw[(hb.at hi hj).2,(h2.at hi hj).2];simp only[aa]
    exact ⟨_,rfl,af (by omega),fin _ ((hb.2.2 i _ hi hj).trans ⟨.inr,fun h=>h.resolve_left fun h=>c ((ha.2.2 i _ hi hj).2 h)⟩)⟩) (fun s hI=>by
   obtain ⟨M,k⟩:=s
   have h1:k=((i+(n - i):Nat):Int):=hI.1
   subst h1
   unfold jf
   simp only
   rw[if_neg (by simp;omega)]) (s:=(M,(i:Int))) ⟨rfl,h2.ext fun a b _ _=>⟨fun h=>⟨.inl h.1,h.2⟩,fun h=>⟨h.1.elim id fun ⟨h1,h2⟩=>(by have:=h.2.elim (tr a b) (tq a b);omega),h.2⟩⟩⟩ (fN (by omega))
  unfold jg
  simp only
  rw[if_pos (decide_eq_true (by omega))]
  rw[aj e2]
  exact ⟨_,rfl,af (by omega),g2.ext fun a b _ hb=>⟨fun h=>⟨by omega,h.2⟩,fun h=>⟨by omega,h.2⟩⟩⟩) (fun s hI=>by
  obtain ⟨M,k⟩:=s
  have h1:k=(n:Int):=hI.1
  subst h1
  unfold jg
  simp only
  rw[if_neg (by simp;omega)]) (s:=(M0,0)) ⟨rfl,k0.ext fun a b _ _=>⟨fun h=>(by cases h.2),fun h=>by omega⟩⟩ (fN (by omega))
 rw[aj e]
 exact ⟨_,rfl,h2.ext fun a b ha _=>⟨fun h=>h.2,fun h=>⟨ha,h⟩⟩⟩
theorem Tg {n:Nat} (hn:n<=100) {r R q:Nat->Nat->Prop} {A B M:List (List Bool)} (ha:MtR n r A) (hb:MtR n q B) (hM:MtR n R M) {i k j:Nat} (hi:i<n) (hk:k<n) (hj:j<n) (hr:r i k) (Z:List (List Bool)) :
  ∃v:Bool,(v=true↔R i j\/q k j)/\bY A B ((i:Int),Z) ((k:Int),Z) ((j:Int),M)=some (.nxt (((j+1:Nat):Int),M.set (i:Int).toNat ((nth M (i:Int)).set (j:Int).toNat v))):=by
 have hl:=hM.1
 have hla:=ha.1
 have c1:chk ((i:Int)<((M.set (i:Int).toNat ([] :List Bool)).length:Int))=some ():=if_pos (by simp;omega)
 unfold bY
 simp only
 rw[if_pos (decide_eq_true (by omega)),(ha.at hi hk).1];simp only[aa]
 rw[(ha.at hi hk).2];simp only[aa]
 rw[if_pos ((ha.2.2 i k hi hk).2 hr),(hM.at hi hj).1];simp only[aa]
 rw[c1];simp only[aa]
 simp only[Te,aa]
 rw[(hM.at hi hj).2];simp only[aa]
 rw[af (show j<9223372036854775807 by have:=hi;omega)]
 by_cases c:nth (nth M (i:Int)) (j:Int)=true
 ·rw[if_pos c]
  exact ⟨true,⟨fun _=>.inl ((hM.2.2 i j hi hj).1 c),fun _=>rfl⟩,rfl⟩
 ·rw[if_neg c,(hb.at hk hj).1];simp only[aa]
  rw[(hb.at hk hj).2]
  exact ⟨_,(hb.2.2 k j hk hj).trans ⟨.inr,fun h=>h.resolve_left fun h=>c ((hM.2.2 i j hi hj).2 h)⟩,rfl⟩
theorem Nh {n:Nat} (hn:n<=100) {r q:Nat->Nat->Prop} {A B:List (List Bool)} (ha:MtR n r A) (hb:MtR n q B) (tr: ∀a b,r a b->a<=b) (tq: ∀a b,q a b->a<=b): ∃M,iL A B=some M/\MtR n (fun i j=> ∃k,k<n/\r i k/\q k j) M:=by
 obtain ⟨M0,e0,k0⟩:=Ey hn false
 have hal:=ha.1
 unfold iL
 rw[ha.1,e0];simp only[aa]
 obtain ⟨s,e,h1,h2⟩:=be (f:=je A B) (fun i s=>s.1=(i:Int)/\MtR n (fun a b=>a<i/\ ∃k,k<n/\r a k/\q k b) s.2) n (fun i s hi hI=>by
  obtain ⟨x,M⟩:=s
  obtain ⟨h1,h2⟩:=hI
  have h1:x=(i:Int):=h1
  subst h1
  obtain ⟨s2,e2,g1,g2⟩:=be (f:=fU A B ((i:Int),M)) (fun u s=>s.1=((i+u:Nat):Int)/\MtR n (fun a b=>(a<i/\ ∃k,k<n/\r a k/\q k b)\/(a=i/\ ∃k',k'<i+u/\r i k'/\q k' b)) s.2) (n - i) (fun u s hu hI=>by
   obtain ⟨x,M2⟩:=s
   obtain ⟨h1,h2⟩:=hI
   have h1:x=((i+u:Nat):Int):=h1
   subst h1
   have hk:i+u<n:=by omega
   generalize hkk:i+u=k at hk h2⊢
   by_cases c:r i k
   ·obtain ⟨s3,e3,f1,f2⟩:=be (f:=bY A B ((i:Int),M) ((k:Int),M2)) (fun v s=>s.1=((k+v:Nat):Int)/\MtR n (fun a b=>((a<i/\ ∃k,k<n/\r a k/\q k b)\/(a=i/\ ∃k',k'<k/\r i k'/\q k' b))\/(a=i/\b<k+v/\q k b)) s.2) (n - k) (fun v s hv hI=>by
     obtain ⟨x,M3⟩:=s
     obtain ⟨h1,h3⟩:=hI
     have h1:x=((k+v:Nat):Int):=h1
     subst h1
     have hj:k+v<n:=by omega
     obtain ⟨z,hz,ez⟩:=Tg hn ha hb h3 hi hk hj c M
     refine ⟨_,(show bY A B ((i:Int),M) ((k:Int),M2) (((k+v:Nat):Int),M3)=_ from ez),rfl,(h3.put hi hj hz).ext fun a b _ _=>?_⟩
     by_cases d:a=i/\b=k+v
     ·rw[if_pos d,d.1,d.2]
      exact ⟨fun h=>h.elim (fun h=>h.elim .inl fun h=>.inr ⟨rfl,by omega,h.2.2⟩) fun h=>.inr ⟨rfl,by omega,h⟩,fun h=>h.elim (fun h=>.inl (.inl h)) fun h=>.inr h.2.2⟩
     ·rw[if_neg d]
      exact ⟨fun h=>h.imp id fun h=>⟨h.1,by omega,h.2.2⟩,fun h=>h.imp id fun h=>⟨h.1,by have:=h.1;have:=h.2.1;omega,h.2.2⟩⟩) (fun s hI=>by
     obtain ⟨x,M3⟩:=s
     have h1:x=((k+(n - k):Nat):Int):=hI.1
     subst h1
     unfold bY
     simp only
     rw[if_neg (by simp;omega)]) (s:=((k:Int),M2)) ⟨rfl,h2.ext fun a b _ _=>⟨.inl,fun h=>h.resolve_right fun h=>by have:=tq _ _ h.2.2;omega⟩⟩ (fN (by omega))
    unfold fU
    simp only
    rw[if_pos (decide_eq_true (by omega)),aj e3]
    refine ⟨_,rfl,by rw[af (by omega)];omega,f2.ext fun a b _ hb'=>⟨fun h=>?_,fun h=>?_⟩⟩
    ·rcases h with (h | ⟨p1,k',p2,p3⟩) | ⟨p1,-,p3⟩
     ·exact .inl h
     ·exact .inr ⟨p1,k',by omega,p3⟩
     ·exact .inr ⟨p1,k,by omega,c,p3⟩
    ·rcases h with h | ⟨p1,k',p2,p3⟩
     ·exact .inl (.inl h)
     ·by_cases d:k'=k
      ·subst d;exact .inr ⟨p1,by omega,p3.2⟩
      ·exact .inl (.inr ⟨p1,k',by omega,p3⟩)
   ·have e3:ay (bY A B ((i:Int),M) ((k:Int),M2)) aS ((k:Int),M2)=some (.brk ((k:Int),M2)):=by
     refine aQ (f:=bY A B ((i:Int),M) ((k:Int),M2)) (fun _=>((k:Int),M2)) 0 (fun i hi=>absurd hi (Nat.not_lt_zero _)) ?_ (fN (by omega))
     unfold bY
     simp only
     rw[if_pos (decide_eq_true (by omega)),(ha.at hi hk).1];simp only[aa]
     rw[(ha.at hi hk).2];simp only[aa]
     rw[if_neg (fun h=>c ((ha.2.2 i k hi hk).1 h))]
    unfold fU
    simp only
    rw[if_pos (decide_eq_true (by omega)),aj e3]
    refine ⟨_,rfl,by rw[af (by omega)];omega,h2.ext fun a b _ _=>⟨fun h=>h.imp id fun ⟨p1,k',p2,p3⟩=>⟨p1,k',by omega,p3⟩,fun h=>h.imp id fun ⟨p1,k',p2,p3⟩=>⟨p1,k',?_,p3⟩⟩⟩
    by_cases d:k'=k
    ·subst d;exact absurd p3.1 c
    ·omega) (fun s hI=>by
   obtain ⟨x,M2⟩:=s
   have h1:x=((i+(n - i):Nat):Int):=hI.1
   subst h1
   unfold fU
   simp only
   rw[if_neg (by simp;omega)]) (s:=((i:Int),M)) ⟨rfl,h2.ext fun a b _ _=>⟨.inl,fun h=>h.resolve_right fun ⟨_,k',p,p2⟩=>by have:=tr _ _ p2.1;omega⟩⟩ (fN (by omega))
  unfold je
  simp only
  rw[if_pos (decide_eq_true (by omega)),aj e2]
  exact ⟨_,rfl,af (by omega),g2.ext fun a b _ _=>⟨fun h=>h.elim (fun h=>⟨by omega,h.2⟩) fun ⟨p1,k',p2,p3⟩=>⟨by omega,by rw[p1];exact ⟨k',by omega,p3⟩⟩,fun ⟨p1,h⟩=>by
   by_cases d:a=i
   ·subst d
    obtain ⟨k',q1,q2⟩:=h
    exact .inr ⟨rfl,k',by omega,q2⟩
   ·exact .inl ⟨by omega,h⟩⟩⟩) (fun s hI=>by
  obtain ⟨x,M⟩:=s
  have h1:x=(n:Int):=hI.1
  subst h1
  unfold je
  simp only
  rw[if_neg (by simp;omega)]) (s:=(0,M0)) ⟨rfl,k0.ext fun a b _ _=>⟨fun h=>(by cases h.2),fun h=>by omega⟩⟩ (fN (by omega))
 rw[aj e]
 exact ⟨_,rfl,h2.ext fun a b ha _=>⟨fun h=>h.2,fun h=>⟨ha,h⟩⟩⟩
end D
namespace D
open Go.RowKit
theorem JI {t:Tok} (h:t.1=1):LX (.node t [])=fun _=>False:=by
 funext w;rw[LX0];apply propext;constructor
 ·rintro (⟨k,-⟩ | ⟨k,-⟩) <;> omega
 ·exact False.elim
theorem EA {t:Tok} (h:t.1=2):LX (.node t [])=fun w=>w= []:=by
 funext w;rw[LX0];apply propext;constructor
 ·rintro (⟨-,k⟩ | ⟨k,-⟩)
  ·exact k
  ·omega
 ·intro k;exact .inl ⟨h,k⟩
theorem BI {t:Tok} (h:t.1=3):LX (.node t [])=fun w=>w= [t.2.1.toNat]:=by
 funext w;rw[LX0];apply propext;constructor
 ·rintro (⟨k,-⟩ | ⟨-,k⟩)
  ·omega
  ·exact k
 ·intro k;exact .inr ⟨h,k⟩
theorem BJ {t:Tok} {a b:Tr Tok} (h:t.1=4):LX (.node t [a,b])=w4 (LX a) (LX b):=by
 funext w;rw[LX2];apply propext;constructor
 ·rintro (⟨-,k⟩ | ⟨k,-⟩)
  ·exact k
  ·omega
 ·intro k;exact .inl ⟨h,k⟩
theorem EB {t:Tok} {a b:Tr Tok} (h:t.1=5):LX (.node t [a,b])=fun w=>LX a w\/LX b w:=by
 funext w;rw[LX2];apply propext;constructor
 ·rintro (⟨k,-⟩ | ⟨-,k⟩)
  ·omega
  ·exact k
 ·intro k;exact .inr ⟨h,k⟩
theorem JJ {t:Tok} {a:Tr Tok} (h:t.1=6):LX (.node t [a])=GB (LX a):=by
 funext w;rw[LX1];apply propext;constructor
 ·rintro (⟨-,k⟩ | ⟨k,-⟩)
  ·exact k
  ·omega
 ·intro k;exact .inl ⟨h,k⟩
def Ux (A:Lg) (low high:Int):Lg:=fun w=> ∃n:Nat,low<=(n:Int)/\(n:Int)<=high/\Ag A n w
theorem BK {t:Tok} {a:Tr Tok} (h:t.1=7):LX (.node t [a])=Ux (LX a) t.2.2.1 t.2.2.2:=by
 funext w;rw[LX1];apply propext;constructor
 ·rintro (⟨k,-⟩ | ⟨-,k⟩)
  ·omega
  ·exact k
 ·intro k;exact .inr ⟨h,k⟩
def SqOk (w:List Nat) (A:Lg) (M:List (List Bool)):Prop:=MtR (w.length+1) (SqL w A) M
theorem SqOk.one {w:List Nat} {M:List (List Bool)} (h:MtR (w.length+1) (fun i j=>i=j/\true=true) M):SqOk w (fun u=>u= []) M:=h.ext fun i j _ hj=>⟨fun h=>(SqL.nil hj).2 h.1,fun h=>⟨(SqL.nil hj).1 h,rfl⟩⟩
theorem SqOk.zero {w:List Nat} {M:List (List Bool)} (h:MtR (w.length+1) (fun i j=>i=j/\false=true) M):SqOk w (fun _=>False) M:=h.ext fun i j _ _=>⟨fun h=>(by cases h.2),fun h=>h.2.elim⟩
theorem SqOk.cat {w:List Nat} {A B:Lg} {M:List (List Bool)} (h:MtR (w.length+1) (fun i j=> ∃k,k<w.length+1/\SqL w A i k/\SqL w B k j) M):SqOk w (w4 A B) M:=h.ext fun i j _ hj=>(SqL.cat hj).symm
theorem SqOk.or {w:List Nat} {A B:Lg} {M:List (List Bool)} (h:MtR (w.length+1) (fun i j=>SqL w A i j\/SqL w B i j) M):SqOk w (fun u=>A u\/B u) M:=h.ext fun i j _ _=>⟨fun h=>h.elim (fun h=>⟨h.1,.inl h.2⟩) fun h=>⟨h.1,.inr h.2⟩,fun h=>h.2.imp (fun k=>⟨h.1,k⟩) fun k=>⟨h.1,k⟩⟩
theorem SqOk.turn {w:List Nat} {A B:Lg} {M:List (List Bool)} (h:SqOk w A M) (e: ∀u,u.length<=w.length->(A u↔B u)):SqOk w B M:=h.ext fun i j _ hj=>⟨fun k=>⟨k.1,(e _ (by rw[tw (by omega)];omega)).1 k.2⟩,fun k=>⟨k.1,(e _ (by rw[tw (by omega)];omega)).2 k.2⟩⟩
theorem EC {w:List Int} (hw: ∀k∈w,0<=k) (hl:w.length<=50) {c:Int} (hc:0<=c) {M:List (List Bool)} (h:MtR (w.length+1) (fun i j=>i<w.length/\j=i+1/\nth w (i:Int)=c) M):SqOk (w.map Int.toNat) (fun u=>u= [c.toNat]) M:=by
 unfold SqOk
 rw[List.length_map]
 refine h.ext fun i j _ hj=>?_
 rw[SqL.letter (by rw[List.length_map];exact hj)]
 constructor
 ·rintro ⟨h1,h2,h3⟩
  refine ⟨h2,?_⟩
  rw[List.getElem?_map,List.getElem?_eq_getElem h1,<-bB h1,h3];rfl
 ·rintro ⟨h1,h2⟩
  have hi:i<w.length:=by omega
  refine ⟨hi,h1,?_⟩
  rw[List.getElem?_map,List.getElem?_eq_getElem hi,<-bB hi] at h2
  have:=hw _ (dD (xs:=w) (i:=(i:Int)) (by omega) (by omega))
  have h2:(nth w (i:Int)).toNat=c.toNat:=by simpa using h2
  omega
def ED (A:Lg) (low:Int) (k:Nat):Lg:=fun u=> ∃n:Nat,n<k/\low<=(n:Int)/\Ag A n u
theorem wN {A:Lg} {low:Int} :ED A low 0=fun _=>False:=by
 funext u;apply propext;exact ⟨fun ⟨n,h,_⟩=>by omega,False.elim⟩
theorem zQ {A:Lg} {low:Int} {k:Nat} (h:low<=(k:Int)):ED A low (k+1)=fun u=>ED A low k u\/Ag A k u:=by
 funext u;apply propext;constructor
 ·rintro ⟨n,h1,h2,h3⟩
  by_cases c:n=k
  ·subst c;exact .inr h3
  ·exact .inl ⟨n,by omega,h2,h3⟩
 ·rintro (⟨n,h1,h2,h3⟩ | h3)
  ·exact ⟨n,by omega,h2,h3⟩
  ·exact ⟨k,by omega,h,h3⟩
theorem JK {A:Lg} {low:Int} {k:Nat} (h: ¬low<=(k:Int)):ED A low (k+1)=ED A low k:=by
 funext u;apply propext;constructor
 ·rintro ⟨n,h1,h2,h3⟩
  by_cases c:n=k
  ·subst c;exact absurd h2 h
  ·exact ⟨n,by omega,h2,h3⟩
 ·rintro ⟨n,h1,h2,h3⟩
  exact ⟨n,by omega,h2,h3⟩
theorem zR {A:Lg} {low high:Int} {k:Nat} (h:(k:Int)=high+1):ED A low k=Ux A low high:=by
 funext u;apply propext;constructor
 ·rintro ⟨n,h1,h2,h3⟩;exact ⟨n,h2,by omega,h3⟩
 ·rintro ⟨n,h1,h2,h3⟩;exact ⟨n,by omega,h1,h3⟩
theorem BL {A:Lg} {n:Nat} {u:List Nat} (h:u.length<=n):ED A 0 (n+1) u↔GB A u:=by
 rw[GD h]
 constructor
 ·rintro ⟨j,h1,-,h3⟩;exact ⟨j,by omega,h3⟩
 ·rintro ⟨j,h1,h3⟩;exact ⟨j,by omega,by omega,h3⟩
section
variable {w:List Int} (hl:w.length<=50) (hw: ∀k∈w,0<=k)
include hl
theorem Q4 {A B:Lg} {M N:List (List Bool)} (ha:SqOk (w.map Int.toNat) A M) (hb:SqOk (w.map Int.toNat) B N): ∃Z,jL M N=some Z/\SqOk (w.map Int.toNat) (w4 A B) Z:=by
 obtain ⟨Z,e,h⟩:=Nf (by rw[List.length_map];omega) ha hb
 exact ⟨Z,e,SqOk.cat h⟩
theorem Vj {A B:Lg} {M N:List (List Bool)} (ha:SqOk (w.map Int.toNat) A M) (hb:SqOk (w.map Int.toNat) B N): ∃Z,jM M N=some Z/\SqOk (w.map Int.toNat) (fun u=>A u\/B u) Z:=by
 obtain ⟨Z,e,h⟩:=Nd (by rw[List.length_map];omega) ha hb
 exact ⟨Z,e,SqOk.or h⟩
theorem Ti {A B:Lg} {M N:List (List Bool)} (ha:SqOk (w.map Int.toNat) A M) (hb:SqOk (w.map Int.toNat) B N): ∃Z,iL M N=some Z/\SqOk (w.map Int.toNat) (w4 A B) Z:=by
 obtain ⟨Z,e,h⟩:=Nh (by rw[List.length_map];omega) ha hb (fun _ _ h=>h.1) (fun _ _ h=>h.1)
 exact ⟨Z,e,SqOk.cat h⟩
theorem V9 {A B:Lg} {M N:List (List Bool)} (ha:SqOk (w.map Int.toNat) A M) (hb:SqOk (w.map Int.toNat) B N): ∃Z,iM M N=some Z/\SqOk (w.map Int.toNat) (fun u=>A u\/B u) Z:=by
 obtain ⟨Z,e,h⟩:=Ng (by rw[List.length_map];omega) ha hb (fun _ _ h=>h.1) (fun _ _ h=>h.1)
 exact ⟨Z,e,SqOk.or h⟩
end
theorem Ni {A:Lg} {k:Nat} :(fun u=>ED A 0 (k+1) u\/w4 (ED A 0 (k+1)) A u)=ED A 0 (k+1+1):=by
 funext u;apply propext;constructor
 ·rintro (⟨n,h1,h2,h3⟩ | ⟨a,b,rfl,⟨n,h1,h2,h3⟩,h4⟩)
  ·exact ⟨n,by omega,h2,h3⟩
  ·exact ⟨n+1,by omega,by omega,by rw[pI];exact ⟨a,b,rfl,h3,h4⟩⟩
 ·rintro ⟨n,h1,h2,h3⟩
  match n,h1,h3 with
  | 0,_,h3=>exact .inl ⟨0,by omega,by omega,h3⟩
  | n+1,h1,h3 =>
   rw[pI] at h3
   obtain ⟨a,b,e,h3,h4⟩:=h3
   exact .inr ⟨a,b,e,⟨n,by omega,by omega,h3⟩,h4⟩
section
variable {w:List Int} (hl:w.length<=50) (hw: ∀k∈w,0<=k)
include hl
theorem Tj: ∃M,jl (i64.wrap ((w.length:Int)+1)) false=some M/\MtR (w.length+1) (fun i j=>i=j/\false=true) M/\SqOk (w.map Int.toNat) (fun _=>False) M:=by
 obtain ⟨M,e,h⟩:=Ez (n:=w.length+1) (by omega) false
 rw[af (by omega)]
 refine ⟨M,e,h,?_⟩
 have h':MtR ((w.map Int.toNat).length+1) (fun i j=>i=j/\false=true) M:=by rw[List.length_map];exact h
 exact SqOk.zero h'
theorem Vk: ∃M,jl (i64.wrap ((w.length:Int)+1)) true=some M/\SqOk (w.map Int.toNat) (fun u=>u= []) M:=by
 obtain ⟨M,e,h⟩:=Ez (n:=w.length+1) (by omega) true
 rw[af (by omega)]
 refine ⟨M,e,?_⟩
 have h':MtR ((w.map Int.toNat).length+1) (fun i j=>i=j/\true=true) M:=by rw[List.length_map];exact h
 exact SqOk.one h'
include hw in
theorem Nj {t:Tok} (hc:0<=t.2.1) {mrec:Tr Tok->List Int->Option (List (List Bool))} {M0:List (List Bool)} (h0:MtR (w.length+1) (fun i j=>i=j/\false=true) M0): ∃s,ay (eI mrec (.node t []) w) aS (0,M0)=some (.brk s)/\SqOk (w.map Int.toNat) (fun u=>u= [t.2.1.toNat]) s.2:=by
 obtain ⟨s,e,h1,h2⟩:=be (f:=eI mrec (.node t []) w) (fun i s=>s.1=(i:Int)/\MtR (w.length+1) (fun a b=>a<i/\b=a+1/\nth w (a:Int)=t.2.1) s.2) w.length (fun i s hi hI=>by
  obtain ⟨x,M⟩:=s
  obtain ⟨h1,h2⟩:=hI
  have h1:x=(i:Int):=h1
  subst h1
  have hi1:i<w.length+1:=by omega
  have hj1:i+1<w.length+1:=by omega
  unfold eI
  simp only
  rw[if_pos (decide_eq_true (by omega)),aD (xs:=w) (by omega) (by omega),(h2.at hi1 hj1).1];simp only[aa]
  rw[iy,af (by omega)];simp only[aa]
  rw[(h2.at hi1 hj1).2];simp only[aa]
  refine ⟨_,rfl,rfl,(h2.put hi1 hj1 (v:=nth w (i:Int)==t.2.1) (p:=nth w (i:Int)=t.2.1) (by simp)).ext fun a b _ _=>?_⟩
  by_cases d:a=i/\b=i+1
  ·rw[if_pos d,d.1,d.2];exact ⟨fun h=>⟨by omega,rfl,h⟩,fun h=>h.2.2⟩
  ·rw[if_neg d]
   exact ⟨fun h=>⟨by omega,h.2⟩,fun h=>⟨by have:=h.1;have:=h.2.1;omega,h.2⟩⟩) (fun s hI=>by
  obtain ⟨x,M⟩:=s
  have h1:x=(w.length:Int):=hI.1
  subst h1
  unfold eI
  simp) (s:=(0,M0)) ⟨rfl,h0.ext fun a b _ _=>⟨fun h=>(by cases h.2),fun h=>by omega⟩⟩ (fN (by omega))
 exact ⟨s,e,EC hw hl hc h2⟩
theorem Tk {A:Lg} {mrec:Tr Tok->List Int->Option (List (List Bool))} {S I:List (List Bool)} (hS:SqOk (w.map Int.toNat) A S) (hI:SqOk (w.map Int.toNat) (fun u=>u= []) I): ∃s,ay (eJ mrec w S) aS (I,0)=some (.brk s)/\SqOk (w.map Int.toNat) (GB A) s.1:=by
 obtain ⟨s,e,h1,h2⟩:=be (f:=eJ mrec w S) (fun k s=>s.2=(k:Int)/\SqOk (w.map Int.toNat) (ED A 0 (k+1)) s.1) (w.length+1) (fun k s hk hI=>by
  obtain ⟨M,x⟩:=s
  obtain ⟨h1,h2⟩:=hI
  have h1:x=(k:Int):=h1
  subst h1
  obtain ⟨Z,e1,g1⟩:=Q4 hl h2 hS
  obtain ⟨Y,e2,g2⟩:=Vj hl h2 g1
  unfold eJ
  simp only
  rw[af (show w.length<9223372036854775807 by omega),if_pos (decide_eq_true (by omega)),e1];simp only[aa]
  rw[e2];simp only[aa]
  exact ⟨_,rfl,af (by omega),by rw[<-Ni];exact g2⟩) (fun s hI=>by
  obtain ⟨M,x⟩:=s
  have h1:x=((w.length+1:Nat):Int):=hI.1
  subst h1
  unfold eJ
  simp only
  rw[af (show w.length<9223372036854775807 by omega),if_neg (by simp)]) (s:=(I,0)) ⟨rfl,by
   have e:ED A 0 (0+1)=fun u=>u= []:=by
    rw[zQ (by omega),wN]
    funext u;apply propext
    exact ⟨fun h=>h.resolve_left id,.inr⟩
   rw[e];exact hI⟩ (fN (by omega))
 exact ⟨s,e,h2.turn fun u hu=>BL (by rw[List.length_map] at hu;omega)⟩
theorem Vl {A:Lg} {mrec:Tr Tok->List Int->Option (List (List Bool))} {t:Tok} {a:Tr Tok} (hh:1<=t.2.2.2/\t.2.2.2<=3) {S I O:List (List Bool)} (hS:SqOk (w.map Int.toNat) A S) (hI:SqOk (w.map Int.toNat) (fun u=>u= []) I) (hO:SqOk (w.map Int.toNat) (fun _=>False) O): ∃s,ay (eK mrec (.node t [a]) S) aS (O,I,0)=some (.brk s)/\SqOk (w.map Int.toNat) (Ux A t.2.2.1 t.2.2.2) s.1:=by
 obtain ⟨s,e,h1,h2,-⟩:=be (f:=eK mrec (.node t [a]) S) (fun k s=>s.2.2=(k:Int)/\SqOk (w.map Int.toNat) (ED A t.2.2.1 k) s.1/\SqOk (w.map Int.toNat) (Ag A k) s.2.1) (t.2.2.2.toNat+1) (fun k s hk hI=>by
  obtain ⟨M,N,x⟩:=s
  obtain ⟨h1,h2,h3⟩:=hI
  have h1:x=(k:Int):=h1
  subst h1
  obtain ⟨Z,e1,g1⟩:=Q4 hl h3 hS
  unfold eK
  simp only[iy,aa]
  rw[if_pos (decide_eq_true (by omega))]
  have hpow:SqOk (w.map Int.toNat) (Ag A (k+1)) Z:=by rw[pI];exact g1
  by_cases c:t.2.2.1<=(k:Int)
  ·obtain ⟨Y,e2,g2⟩:=Vj hl h2 h3
   rw[if_pos (decide_eq_true c),e2];simp only[aa]
   rw[e1];simp only[aa]
   exact ⟨_,rfl,af (by omega),by rw[zQ c];exact g2,hpow⟩
  ·rw[if_neg (by simpa using c)];simp only[aa]
   rw[e1];simp only[aa]
   exact ⟨_,rfl,af (by omega),by rw[JK c];exact h2,hpow⟩) (fun s hI=>by
  obtain ⟨M,N,x⟩:=s
  have h1:x=((t.2.2.2.toNat+1:Nat):Int):=hI.1
  subst h1
  unfold eK
  simp only[iy,aa]
  rw[if_neg (by simp;omega)]) (s:=(O,I,0)) ⟨rfl,by rw[wN];exact hO,hI⟩ (fN (by omega))
 exact ⟨s,e,by rw[<-zR (k:=t.2.2.2.toNat+1) (by omega)];exact h2⟩
include hw in
theorem Q5 {x:Tr Tok} (h:WT x): ∀m,(flat x).length<=m-> ∃M,aV m x w=some M/\SqOk (w.map Int.toNat) (LX x) M:=by
 obtain ⟨M0,e0,k0,z0⟩:=Tj hl
 obtain ⟨M1,e1,k1⟩:=Vk hl
 refine WT.ind (p:=fun x=> ∀m,(flat x).length<=m-> ∃M,aV m x w=some M/\SqOk (w.map Int.toNat) (LX x) M) ?_ ?_ ?_ h
 ·intro t e m hm
  rw[tp] at hm
  match m,hm with
  | m+1,_ =>
   rw[aV,e0];simp only[aa,iy]
   rcases fF (t:=t) (by omega) with ⟨k,-⟩ | ⟨k,-⟩ | ⟨-,k⟩
   ·omega
   ·omega
   ·rcases k with k | k | k
    ·rw[JI k]
     simp[k]
     exact z0
    ·rw[EA k,if_pos (by simp[k]),e1]
     exact ⟨_,rfl,k1⟩
    ·have hc:0<=t.2.1:=by
      unfold ar at e
      rw[if_neg (by omega),if_pos k] at e
      split at e
      ·rename_i h;exact h.1.1
      ·omega
     obtain ⟨s,es,hs⟩:=Nj hl hw hc (mrec:=aV m) k0
     rw[BI k,if_neg (by simp[k]),if_pos (by simp[k]),aj es]
     exact ⟨_,rfl,hs⟩
 ·intro t a e wa ih m hm
  rw[sk,aw,List.length_singleton] at hm
  match m,hm with
  | m+1,hm =>
   obtain ⟨S,eS,hS⟩:=ih m (by omega)
   have g0:aL [a] 0=some a:=rfl
   rw[aV,e0];simp only[aa,iy,g0]
   rcases Gy e with ⟨-,k⟩ | ⟨-,-,k⟩
   ·obtain ⟨s,es,hs⟩:=Tk hl (mrec:=aV m) hS k1
    rw[JJ k,if_neg (by simp[k]),if_neg (by simp[k]),if_neg (by simp[k]),if_neg (by simp[k]),if_pos (by simp[k]),e1];simp only[aa]
    rw[eS];simp only[aa]
    rw[aj es]
    exact ⟨_,rfl,hs⟩
   ·obtain ⟨s,es,hs⟩:=Vl hl (mrec:=aV m) (a:=a) (qw (show 0<=ar t by omega) k).2 hS k1 z0
    rw[BK k,if_neg (by simp[k]),if_neg (by simp[k]),if_neg (by simp[k]),if_neg (by simp[k]),if_neg (by simp[k]),if_pos (by simp[k]),eS];simp only[aa]
    rw[e1];simp only[aa]
    rw[aj es]
    exact ⟨_,rfl,hs⟩
 ·intro t a b e wa wb iha ihb m hm
  rw[oc,aw,aw,List.length_singleton] at hm
  match m,hm with
  | m+1,hm =>
   obtain ⟨S,eS,hS⟩:=iha m (by omega)
   obtain ⟨T,eT,hT⟩:=ihb m (by omega)
   have g0:aL [a,b] 0=some a:=rfl
   have g1:aL [a,b] 1=some b:=rfl
   rw[aV,e0];simp only[aa,iy,g0,g1]
   rcases fF (t:=t) (by omega) with ⟨-,k⟩ | ⟨k,-⟩ | ⟨k,-⟩
   ·rcases k with k | k
    ·obtain ⟨Z,eZ,hZ⟩:=Q4 hl hS hT
     rw[BJ k,if_neg (by simp[k]),if_neg (by simp[k]),if_pos (by simp[k]),eS];simp only[aa]
     rw[eT];simp only[aa]
     rw[eZ]
     exact ⟨_,rfl,hZ⟩
    ·obtain ⟨Z,eZ,hZ⟩:=Vj hl hS hT
     rw[EB k,if_neg (by simp[k]),if_neg (by simp[k]),if_neg (by simp[k]),if_pos (by simp[k]),eS];simp only[aa]
     rw[eT];simp only[aa]
     rw[eZ]
     exact ⟨_,rfl,hZ⟩
   ·omega
   ·omega
theorem JL {x:Tr Tok} (h:WT x) (hx:(flat x).length<=1000000) (hw: ∀k∈w,0<=k): ∃b,dM x w=some b/\(b=true↔LX x (w.map Int.toNat)):=by
 obtain ⟨M,e,hM⟩:=Q5 hl hw h cF (by have:=lV;omega)
 unfold dM
 rw[e];simp only[aa]
 have hM':MtR (w.length+1) (SqL (w.map Int.toNat) (LX x)) M:=by
  have:=hM
  unfold SqOk at this
  rw[List.length_map] at this
  exact this
 have:=hM'.at (i:=0) (j:=w.length) (by omega) (by omega)
 have a1:aL M 0=some (nth M ((0:Nat):Int)):=this.1
 rw[a1];simp only[aa]
 rw[this.2]
 refine ⟨_,rfl,(hM'.2.2 0 w.length (by omega) (by omega)).trans ?_⟩
 unfold SqL
 have e2:seg (w.map Int.toNat) 0 w.length=w.map Int.toNat:=by
  have:=JF (w.map Int.toNat)
  rwa [List.length_map] at this
 rw[e2]
 exact ⟨fun h=>h.2,fun h=>⟨Nat.zero_le _,h⟩⟩
end
end D
namespace D
open Go.RowKit
theorem Q6 {R S:Type} {f:S->Option (Out R S)} {s s':S} (h:f s=some (.nxt s')) (m:Nat):ay f (m+1) s=ay f m s':=by rw[ay,h]
section
variable {w:List Int} (hl:w.length<=50) (hw: ∀k∈w,0<=k)
include hl
theorem OK: ∃M,dK (i64.wrap ((w.length:Int)+1)) false=some M/\MtR (w.length+1) (fun i j=>i=j/\false=true) M/\SqOk (w.map Int.toNat) (fun _=>False) M:=by
 obtain ⟨M,e,h⟩:=Ey (n:=w.length+1) (by omega) false
 rw[af (by omega)]
 refine ⟨M,e,h,?_⟩
 have h':MtR ((w.map Int.toNat).length+1) (fun i j=>i=j/\false=true) M:=by rw[List.length_map];exact h
 exact SqOk.zero h'
theorem Tl: ∃M,dK (i64.wrap ((w.length:Int)+1)) true=some M/\SqOk (w.map Int.toNat) (fun u=>u= []) M:=by
 obtain ⟨M,e,h⟩:=Ey (n:=w.length+1) (by omega) true
 rw[af (by omega)]
 refine ⟨M,e,?_⟩
 have h':MtR ((w.map Int.toNat).length+1) (fun i j=>i=j/\true=true) M:=by rw[List.length_map];exact h
 exact SqOk.one h'
include hw in
theorem Nk {t:Tok} (hc:0<=t.2.1) {M0:List (List Bool)} (h0:MtR (w.length+1) (fun i j=>i=j/\false=true) M0): ∃s,ay (ig w t) aS (0,M0)=some (.brk s)/\SqOk (w.map Int.toNat) (fun u=>u= [t.2.1.toNat]) s.2:=by
 obtain ⟨s,e,h1,h2⟩:=be (f:=ig w t) (fun i s=>s.1=(i:Int)/\MtR (w.length+1) (fun a b=>a<i/\b=a+1/\nth w (a:Int)=t.2.1) s.2) w.length (fun i s hi hI=>by
  obtain ⟨x,M⟩:=s
  obtain ⟨h1,h2⟩:=hI
  have h1:x=(i:Int):=h1
  subst h1
  have hi1:i<w.length+1:=by omega
  have hj1:i+1<w.length+1:=by omega
  unfold ig
  simp only
  rw[if_pos (decide_eq_true (by omega)),(h2.at hi1 hj1).1];simp only[aa]
  rw[aD (xs:=w) (by omega) (by omega),af (by omega)];simp only[aa]
  rw[(h2.at hi1 hj1).2];simp only[aa]
  refine ⟨_,rfl,rfl,(h2.put hi1 hj1 (v:=nth w (i:Int)==t.2.1) (p:=nth w (i:Int)=t.2.1) (by simp)).ext fun a b _ _=>?_⟩
  by_cases d:a=i/\b=i+1
  ·rw[if_pos d,d.1,d.2];exact ⟨fun h=>⟨by omega,rfl,h⟩,fun h=>h.2.2⟩
  ·rw[if_neg d]
   exact ⟨fun h=>⟨by omega,h.2⟩,fun h=>⟨by have:=h.1;have:=h.2.1;omega,h.2⟩⟩) (fun s hI=>by
  obtain ⟨x,M⟩:=s
  have h1:x=(w.length:Int):=hI.1
  subst h1
  unfold ig
  simp) (s:=(0,M0)) ⟨rfl,h0.ext fun a b _ _=>⟨fun h=>(by cases h.2),fun h=>by omega⟩⟩ (fN (by omega))
 exact ⟨s,e,EC hw hl hc h2⟩
theorem Tm {A:Lg} {low high:Int} (hh:0<=high/\high<=50) {S:List (List Bool)} (hS:SqOk (w.map Int.toNat) A S): ∃Z,fy S low high=some Z/\SqOk (w.map Int.toNat) (Ux A low high) Z:=by
 have hlen:(S.length:Int)=i64.wrap ((w.length:Int)+1):=by
  have:=hS.1
  rw[List.length_map] at this
  rw[af (by omega),this]
 obtain ⟨O,e0,-,hO⟩:=OK hl
 obtain ⟨I,e1,hI⟩:=Tl hl
 unfold fy
 rw[hlen,e0,e1];simp only[aa]
 obtain ⟨s,e,h1,h2,-⟩:=be (f:=gy S low high) (fun k s=>s.2.2=(k:Int)/\SqOk (w.map Int.toNat) (ED A low k) s.1/\SqOk (w.map Int.toNat) (Ag A k) s.2.1) (high.toNat+1) (fun k s hk hI=>by
  obtain ⟨M,N,x⟩:=s
  obtain ⟨h1,h2,h3⟩:=hI
  have h1:x=(k:Int):=h1
  subst h1
  obtain ⟨Z,e1,g1⟩:=Ti hl h3 hS
  unfold gy
  simp only
  rw[if_pos (decide_eq_true (by omega))]
  have hpow:SqOk (w.map Int.toNat) (Ag A (k+1)) Z:=by rw[pI];exact g1
  by_cases c:low<=(k:Int)
  ·obtain ⟨Y,e2,g2⟩:=V9 hl h2 h3
   rw[if_pos (decide_eq_true c),e2];simp only[aa]
   rw[e1];simp only[aa]
   exact ⟨_,rfl,af (by omega),by rw[zQ c];exact g2,hpow⟩
  ·rw[if_neg (by simpa using c)];simp only[aa]
   rw[e1];simp only[aa]
   exact ⟨_,rfl,af (by omega),by rw[JK c];exact h2,hpow⟩) (fun s hI=>by
  obtain ⟨M,N,x⟩:=s
  have h1:x=((high.toNat+1:Nat):Int):=hI.1
  subst h1
  unfold gy
  simp only
  rw[if_neg (by simp;omega)]) (s:=(O,I,0)) ⟨rfl,by rw[wN];exact hO,hI⟩ (fN (by omega))
 rw[aj e]
 exact ⟨_,rfl,by rw[<-zR (k:=high.toNat+1) (by omega)];exact h2⟩
theorem Tn {A:Lg} {S:List (List Bool)} (hS:SqOk (w.map Int.toNat) A S): ∃Z,fy S 0 (w.length:Int)=some Z/\SqOk (w.map Int.toNat) (GB A) Z:=by
 obtain ⟨Z,e,h⟩:=Tm hl (low:=0) (high:=(w.length:Int)) (by omega) hS
 refine ⟨Z,e,h.turn fun u hu=>?_⟩
 rw[<-zR (k:=w.length+1) (by omega)]
 exact BL (by rw[List.length_map] at hu;exact hu)
variable {p0:List Tok} (hp:p0.length<=1000)
include hp
theorem st0 (hw: ∀k∈w,0<=k) {t:Tok} (e:ar t=0) {S:List (List (List Bool))} {i:Nat} (hi:i<p0.length) (ht:p0[i] =t) (hS:S.length<=i): ∃M,SqOk (w.map Int.toNat) (LX (.node t [])) M/\bh p0 w (S,(i:Int))=some (.nxt (S++ [M],((i+1:Nat):Int))):=by
 obtain ⟨M0,e0,k0,z0⟩:=OK hl
 obtain ⟨M1,e1,k1⟩:=Tl hl
 have hx: ∀M:List (List Bool),cR 24 S [M] =some (S++ [M]):=fun M=>aI (by simp;omega)
 unfold bh
 simp only
 rw[if_pos (decide_eq_true (by omega)),aY hi,ht];simp only[aa]
 rcases fF (t:=t) (by omega) with ⟨k,-⟩ | ⟨k,-⟩ | ⟨-,k⟩
 ·omega
 ·omega
 ·rcases k with k | k | k
  ·refine ⟨M0,by rw[JI k];exact z0,?_⟩
   rw[if_neg (by simp[k]),if_neg (by simp[k]),if_neg (by simp[k]),if_neg (by simp[k]),if_neg (by simp[k]),if_neg (by simp[k]),e0];simp only[aa]
   rw[hx,af (by omega)];rfl
  ·refine ⟨M1,by rw[EA k];exact k1,?_⟩
   rw[if_pos (by simp[k]),e1];simp only[aa]
   rw[hx,af (by omega)];rfl
  ·have hc:0<=t.2.1:=by
    unfold ar at e
    rw[if_neg (by omega),if_pos k] at e
    split at e
    ·rename_i h;exact h.1.1
    ·omega
   obtain ⟨s,es,hs⟩:=Nk hl hw hc k0
   refine ⟨s.2,by rw[BI k];exact hs,?_⟩
   rw[if_neg (by simp[k]),if_pos (by simp[k]),e0];simp only[aa]
   rw[aj es,hx,af (by omega)];rfl
theorem st1 {t:Tok} {a:Tr Tok} (e:ar t=1) {S:List (List (List Bool))} {A:List (List Bool)} (hA:SqOk (w.map Int.toNat) (LX a) A) {i:Nat} (hi:i<p0.length) (ht:p0[i] =t) (hS:S.length<=i): ∃M,SqOk (w.map Int.toNat) (LX (.node t [a])) M/\bh p0 w (S++ [A],(i:Int))=some (.nxt (S++ [M],((i+1:Nat):Int))):=by
 have hlen:((S++ [A]).length:Int)=(S.length:Int)+1:=by simp
 have hn:i64.wrap ((S.length:Int)+1 - 1)=(S.length:Int):=by rw[fg (by omega) (by omega)];omega
 have g1:aL (S++ [A]) (S.length:Int)=some A:=by
  rw[aD (by omega) (by first | (simp;done) | (simp;omega)),bB (by first | (simp;done) | (simp;omega))];simp
 unfold bh
 simp only
 rw[if_pos (decide_eq_true (by omega)),aY hi,ht,hlen,hn,g1];simp only[aa]
 have hset: ∀Z:List (List Bool),(S++ [A]).set (S.length:Int).toNat Z=S++ [Z]:=fun Z=>by
  rw[Int.toNat_natCast,List.set_append_right _ _ (aF _),Nat.sub_self];rfl
 rcases Gy e with ⟨-,k⟩ | ⟨-,-,k⟩
 ·obtain ⟨Z,eZ,hZ⟩:=Tn hl hA
  refine ⟨Z,by rw[JJ k];exact hZ,?_⟩
  rw[if_neg (by simp[k]),if_neg (by simp[k]),if_neg (by simp[k]),if_neg (by simp[k]),if_pos (by simp[k]),eZ];simp only[aa]
  rw[hset,af (by omega)]
 ·have hr:=qw (show 0<=ar t by omega) k
  obtain ⟨Z,eZ,hZ⟩:=Tm hl (low:=t.2.2.1) (high:=t.2.2.2) (by omega) hA
  refine ⟨Z,by rw[BK k];exact hZ,?_⟩
  rw[if_neg (by simp[k]),if_neg (by simp[k]),if_neg (by simp[k]),if_neg (by simp[k]),if_neg (by simp[k]),if_pos (by simp[k]),eZ];simp only[aa]
  rw[hset,af (by omega)]
theorem st2 {t:Tok} {a b:Tr Tok} (e:ar t=2) {S:List (List (List Bool))} {A B:List (List Bool)} (hA:SqOk (w.map Int.toNat) (LX a) A) (hB:SqOk (w.map Int.toNat) (LX b) B) {i:Nat} (hi:i<p0.length) (ht:p0[i] =t) (hS:S.length<=i): ∃M,SqOk (w.map Int.toNat) (LX (.node t [a,b])) M/\bh p0 w ((S++ [A])++ [B],(i:Int))=some (.nxt (S++ [M],((i+1:Nat):Int))):=by
 have hlen:(((S++ [A])++ [B]).length:Int)=(S.length:Int)+2:=by first | (simp;done) | (simp;omega)
 have hn1:i64.wrap ((S.length:Int)+2 - 1)=((S.length+1:Nat):Int):=by rw[fg (by omega) (by omega)];omega
 have hn2:i64.wrap ((S.length:Int)+2 - 2)=(S.length:Int):=by rw[fg (by omega) (by omega)];omega
 have g1:aL ((S++ [A])++ [B]) ((S.length+1:Nat):Int)=some B:=by
  rw[aD (by omega) (by first | (simp;done) | (simp;omega)),bB (by first | (simp;done) | (simp;omega))];simp
 have g2:aL ((S++ [A])++ [B]) (S.length:Int)=some A:=by
  rw[aD (by omega) (by first | (simp;done) | (simp;omega)),bB (by first | (simp;done) | (simp;omega))];simp
 have hc:chk (And (0<=(S.length:Int)) ((S.length:Int)<=(S.length:Int)+2))=some ():=if_pos ⟨by omega,by omega⟩
 have htk:((S++ [A])++ [B]).take (S.length:Int).toNat=S:=by
  rw[Int.toNat_natCast,aB,List.take_left]
 have hx: ∀M:List (List Bool),cR 24 S [M] =some (S++ [M]):=fun M=>aI (by simp;omega)
 unfold bh
 simp only
 rw[if_pos (decide_eq_true (by omega)),aY hi,ht,hlen,hn1,hn2,g1,g2,htk];simp only[aa]
 rw[hc]
 rcases fF (t:=t) (by omega) with ⟨-,k⟩ | ⟨k,-⟩ | ⟨k,-⟩
 ·rcases k with k | k
  ·obtain ⟨Z,eZ,hZ⟩:=Ti hl hA hB
   refine ⟨Z,by rw[BJ k];exact hZ,?_⟩
   rw[if_neg (by simp[k]),if_neg (by simp[k]),if_pos (by simp[k]),eZ];simp only[aa]
   rw[hx,af (by omega)];rfl
  ·obtain ⟨Z,eZ,hZ⟩:=V9 hl hA hB
   refine ⟨Z,by rw[EB k];exact hZ,?_⟩
   rw[if_neg (by simp[k]),if_neg (by simp[k]),if_neg (by simp[k]),if_pos (by simp[k]),eZ];simp only[aa]
   rw[hx,af (by omega)];rfl
 ·omega
 ·omega
theorem Q7 (hw: ∀k∈w,0<=k) {x:Tr Tok} (h:WT x): ∀(A B:List Tok) (S:List (List (List Bool))),p0=A++(flat x++B)->S.length<=A.length-> ∃M,SqOk (w.map Int.toNat) (LX x) M/\ ∀m,ay (bh p0 w) (m+(flat x).length) (S,(A.length:Int))=ay (bh p0 w) m (S++ [M],((A.length+(flat x).length:Nat):Int)):=by
 refine WT.ind (p:=fun x=> ∀(A B:List Tok) (S:List (List (List Bool))),p0=A++(flat x++B)->S.length<=A.length-> ∃M,SqOk (w.map Int.toNat) (LX x) M/\ ∀m,ay (bh p0 w) (m+(flat x).length) (S,(A.length:Int))=ay (bh p0 w) m (S++ [M],((A.length+(flat x).length:Nat):Int))) ?_ ?_ ?_ h
 ·intro t e A B S h1 h2
  rw[tp] at h1⊢
  have hi:A.length<p0.length:=by rw[h1];simp
  obtain ⟨M,hM,eM⟩:=st0 hl hp hw e hi (by simp[h1]) h2
  exact ⟨M,hM,fun m=>Q6 eM m⟩
 ·intro t a e wa ih A B S h1 h2
  rw[sk] at h1⊢
  obtain ⟨Ma,ha,ea⟩:=ih A ([t] ++B) S (by rw[h1];simp) h2
  have hi:A.length+(flat a).length<p0.length:=by rw[h1];simp only[aw,List.length_singleton];omega
  have hpo:=wa.pos
  obtain ⟨M,hM,eM⟩:=st1 hl hp e ha hi (by simp[h1,List.getElem_append_right]) (S:=S) (by omega)
  refine ⟨M,hM,fun m=>?_⟩
  rw[aw,List.length_singleton,show m+((flat a).length+1)=(m+1)+(flat a).length by omega,ea,Q6 eM m]
  rfl
 ·intro t a b e wa wb iha ihb A B S h1 h2
  rw[oc] at h1⊢
  obtain ⟨Ma,ha,ea⟩:=iha A (flat b++([t] ++B)) S (by rw[h1];simp) h2
  have hpo:=wa.pos
  obtain ⟨Mb,hb,eb⟩:=ihb (A++flat a) ([t] ++B) (S++ [Ma]) (by rw[h1];simp) (by first | (simp;done) | (simp;omega))
  have hi:A.length+(flat a).length+(flat b).length<p0.length:=by rw[h1];simp only[aw,List.length_singleton];omega
  obtain ⟨M,hM,eM⟩:=st2 hl hp e ha hb hi (by simp[h1,List.getElem_append_right,Nat.add_assoc]) (S:=S) (by omega)
  refine ⟨M,hM,fun m=>?_⟩
  rw[aw] at eb
  rw[aw,aw,List.length_singleton,show m+((flat a).length+(flat b).length+1)=((m+1)+(flat b).length)+(flat a).length by omega,ea,eb,Q6 eM m]
  congr 3
  all_goals omega
end
theorem Q8 {w:List Int} (hl:w.length<=50) (hw: ∀k∈w,0<=k) {x:Tr Tok} (h:WT x) (hx:(flat x).length<=1000): ∃b,lB (flat x) w=some b/\(b=true↔LX x (w.map Int.toNat)):=by
 obtain ⟨M,hM,e⟩:=Q7 hl hx hw h [] [] [] (by simp) (aF _)
 obtain ⟨k,hk⟩: ∃k,aS=(k+1)+(flat x).length:=⟨aS - 1 - (flat x).length,by have:=nm 9000 (by omega);omega⟩
 have hL:ay (bh (flat x) w) aS (([] :List (List (List Bool))),0)=some (.brk ([M],((flat x).length:Int))):=by
  have e1:=e (k+1)
  rw[<-hk] at e1
  refine (show ay (bh (flat x) w) aS (([] :List (List (List Bool))),0)=_ from e1).trans ?_
  have e2:bh (flat x) w ([M],((flat x).length:Int))=some (.brk ([M],((flat x).length:Int))):=by
   unfold bh
   simp
  simp only[List.nil_append,aJ,Nat.zero_add]
  rw[ay,e2]
 unfold lB
 rw[aj hL]
 have hM':MtR (w.length+1) (SqL (w.map Int.toNat) (LX x)) M:=by
  have:=hM
  unfold SqOk at this
  rw[List.length_map] at this
  exact this
 have:=hM'.at (i:=0) (j:=w.length) (by omega) (by omega)
 have a1:aL M 0=some (nth M ((0:Nat):Int)):=this.1
 have a0:aL [M] 0=some M:=rfl
 simp only[a0,a1,aa]
 rw[this.2]
 refine ⟨_,rfl,(hM'.2.2 0 w.length (by omega) (by omega)).trans ?_⟩
 unfold SqL
 have e2:seg (w.map Int.toNat) 0 w.length=w.map Int.toNat:=by
  have:=JF (w.map Int.toNat)
  rwa [List.length_map] at this
 rw[e2]
 exact ⟨fun h=>h.2,fun h=>⟨Nat.zero_le _,h⟩⟩
end D
namespace D
open Go.RowKit
theorem C3 {c:Prop} [Decidable c] (h:c):chk c=some ():=if_pos h
theorem GE {α:Type} {xs:List α} {i n:Nat} {z:α} (h:i<=xs.length):(qH xs i n z).take i=xs.take i:=by
 unfold qH
 rw[List.take_append_of_le_length (by rw[aA];omega),List.take_take,Nat.min_self]
theorem JM {α:Type} {xs:List α} {i:Nat} {z:α} (h:i<=xs.length):(qH xs i xs.length z).length=xs.length:=tN h (aF _)
theorem Nl {α:Type} {ys:List α} {i:Nat} {x:α} (h:i<ys.length):(ys.set i x).take (i+1)=ys.take i++ [x]:=by
 rw[List.take_succ_eq_append_getElem (by simpa using h)]
 simp[List.take_set_of_le]
theorem set_drop {α:Type} {ys:List α} {i j:Nat} {x:α} (h:i<j):(ys.set i x).drop j=ys.drop j:=by
 apply List.ext_getElem?
 intro q
 rw[List.getElem?_drop,List.getElem?_drop,List.getElem?_set_ne (by omega)]
theorem JN {α:Type} {ys xs:List α} {j:Nat} (h:ys.drop j=xs.drop j):ys.drop (j+1)=xs.drop (j+1):=by
 rw[<-List.drop_drop,h,List.drop_drop]
theorem EE {α:Type} {ys xs:List α} {j q:Nat} (h:ys.drop j=xs.drop j) (hq:j<=q) (h1:q<ys.length) (h2:q<xs.length):ys[q] =xs[q]:=by
 have e:=congrArg (fun l=>l[q - j]?) h
 simp only[List.getElem?_drop,show j+(q - j)=q from by omega] at e
 rw[List.getElem?_eq_getElem h1,List.getElem?_eq_getElem h2] at e
 exact ae e
section
variable {α:Type} [DecidableEq α]
end
end D
namespace D
open Go.RowKit
theorem su (m:Nat):BitVec.ofInt 64 (m:Int)=BitVec.ofNat 64 m:=by simp
theorem Q9 {m n:Nat} (hm:m<2 ^ 62) (hn:n<2 ^ 62):sD (m:Int) (n:Int)=((m &&& n:Nat):Int):=by
 unfold sD
 rw[su,su,BitVec.toNat_and,BitVec.toNat_ofNat,BitVec.toNat_ofNat,Nat.mod_eq_of_lt (by omega),Nat.mod_eq_of_lt (by omega)]
 have:m &&& n<=m:=Nat.and_le_left
 exact fg (by omega) (by omega)
theorem To {m n:Nat} (hm:m<2 ^ 62) (hn:n<2 ^ 62):orI (m:Int) (n:Int)=((m ||| n:Nat):Int):=by
 unfold orI
 rw[su,su,BitVec.toNat_or,BitVec.toNat_ofNat,BitVec.toNat_ofNat,Nat.mod_eq_of_lt (by omega),Nat.mod_eq_of_lt (by omega)]
 have:m ||| n<2 ^ 62:=Nat.or_lt_two_pow hm hn
 exact fg (by omega) (by omega)
theorem Ra {m i:Nat} (hi:i<64):oN (m:Int) (i:Int)=((m >>> i:Nat):Int):=by
 unfold oN
 rw[show min (i:Int).toNat 64=i from by simp;omega,Nat.shiftRight_eq_div_pow,Int.fdiv_eq_ediv_of_nonneg _ (by exact_mod_cast Nat.zero_le _)]
 simp
theorem Rb {i:Nat} (hi:i<62):Aj 1 (i:Int)=((2 ^ i:Nat):Int):=by
 unfold Aj
 rw[show min (i:Int).toNat 64=i from by simp;omega,Int.one_mul]
 have:2 ^ i<2 ^ 62:=Nat.pow_lt_pow_right (by decide) hi
 rw[show ((2:Int) ^ i)=((2 ^ i:Nat):Int) from by simp]
 generalize 2 ^ i=z at this
 exact fg (by omega) (by omega)
theorem Rc {m i:Nat} (hm:m<2 ^ 62) (hi:i<64):((sD (oN (m:Int) (i:Int)) 1)==1)=m.testBit i:=by
 have h1:m >>> i<2 ^ 62:=Nat.lt_of_le_of_lt (by rw[Nat.shiftRight_eq_div_pow];exact Nat.div_le_self _ _) hm
 rw[Ra hi,show (1:Int)=((1:Nat):Int) from rfl,Q9 h1 (by decide),Nat.testBit,Nat.and_comm]
 have e:m >>> i &&& 1=m >>> i % 2:=Nat.and_one_is_mod _
 rw[Nat.and_comm 1,e]
 rcases Nat.mod_two_eq_zero_or_one (m >>> i) with h | h <;> rw[h] <;> rfl
def wO (m k:Nat):List Int:=((List.range k).filter fun i=>m.testBit i).map fun (i:Nat)=>(i:Int)
theorem yq (m k:Nat):wO m (k+1)=if m.testBit k then wO m k++ [(k:Int)] else wO m k:=by
 unfold wO
 rw[List.range_succ,List.filter_append,aM]
 by_cases h:m.testBit k=true
 ·simp[h]
 ·simp[h]
theorem GF {m k l:Nat} (h:m<2 ^ k) (hl:k<=l):wO m l=wO m k:=by
 induction hl with
 | refl=>rfl
 | step hl ih =>
  rw[yq,Nat.testBit_lt_two_pow (aG h (Nat.pow_le_pow_right (by decide) hl)),ih];rfl
theorem JO (m k:Nat):(wO m k).length<=k:=by
 unfold wO;rw[List.length_map];exact Nat.le_trans (List.length_filter_le _ _) (by simp)
theorem xm (m i j:Nat):(m ||| 2 ^ i).testBit j=(m.testBit j || decide (i=j)):=by
 rw[Nat.testBit_or,Nat.testBit_two_pow]
end D
namespace D
open Go.RowKit
end D
namespace D
open Go.RowKit
theorem Tp {p:Prop} [Decidable p] (h:p):chk p=some ():=by unfold chk;rw[if_pos h]
theorem Vm {m:Nat} (hm:m<2 ^ 30):rP (m:Int)=some (wO m 30):=by
 have hm':m<2 ^ 62:=aG hm (Nat.pow_le_pow_right (by decide) (by decide))
 unfold rP
 have:=aQ (f:=ke (m:Int)) (fun i=>(wO m i,(i:Int))) 30 (fun i hi=>by
  have hl:=JO m i
  unfold ke
  simp only
  rw[if_pos (by simp;omega),Tp (by omega),Rc hm' (by omega),af (by omega),yq];simp only[aa]
  by_cases b:m.testBit i=true
  ·rw[if_pos b,if_pos b,aI (by simp;omega)];rfl
  ·rw[if_neg b,if_neg b];rfl) (by unfold ke;simp) (by unfold aS;omega)
 have this:ay (ke (m:Int)) aS (([] :List Int),0)=_:=this
 rw[aj this]
end D
namespace D
open Go.RowKit
def ext (l:List Int) (ws:List (List Int)):List (List Int):=ws.flatMap fun w=>l.map fun c=>w++ [c]
theorem EF (l:List Int) (a:List (List Int)) (w:List Int):ext l (a++ [w])=ext l a++l.map fun c=>w++ [c]:=by unfold ext;rw[List.flatMap_append];simp
theorem od (l:List Int): ∀ws:List (List Int),(ext l ws).length=l.length*ws.length
 | [] =>rfl
 | w::ws=>by
  have:=od l ws
  show ((l.map fun c=>w++ [c])++ext l ws).length=_
  rw[aw,this,List.length_map,aH,Nat.mul_add];omega
def lets:List Int:=(List.range 9).map fun (k:Nat)=>(k:Int)
theorem uU {c:Int} :c∈lets↔0<=c/\c<=8:=by
 unfold lets
 rw[List.mem_map]
 constructor
 ·rintro ⟨k,hk,rfl⟩;have:=List.mem_range.1 hk;omega
 ·intro h;exact ⟨c.toNat,List.mem_range.2 (by omega),by omega⟩
def wds (l:List Int):Nat->List (List Int)
 | 0=>[[]]
 | n+1=>ext l (wds l n)
theorem tx (l:List Int) (h:l.length<=9): ∀n,n<=3->(wds l n).length<=729
 | 0,_=>by simp[wds]
 | 1,_=>by rw[wds,od];simp[wds];omega
 | 2,_=>by
  rw[wds,wds,od,od];simp only[wds,aH,aJ,Nat.zero_add,Nat.mul_one]
  have:l.length*l.length<=9*9:=Nat.mul_le_mul h h
  omega
 | 3,_=>by
  rw[wds,wds,wds,od,od,od];simp only[wds,aH,aJ]
  have h1:l.length*l.length<=9*9:=Nat.mul_le_mul h h
  have:=Nat.mul_le_mul h h1
  simp only[Nat.zero_add,Nat.mul_one]
  omega
 | n+4,h=>by omega
theorem BM (l:List Int): ∀n,∀w∈wds l n,w.length=n/\ ∀k∈w,k∈l
 | 0,w,h=>by
  obtain rfl:=ak h
  exact ⟨rfl,fun k hk=>by cases hk⟩
 | n+1,w,h=>by
  obtain ⟨v,hv,h⟩:=List.mem_flatMap.1 h
  obtain ⟨c,hc,rfl⟩:=List.mem_map.1 h
  obtain ⟨h1,h2⟩:=BM l n v hv
  refine ⟨by simp[h1],fun k hk=>?_⟩
  rcases aC hk with hk | hk
  ·exact h2 k hk
  ·rw[ak hk];exact hc
theorem yr {l:List Int} {p:Int->Bool} (hp:l=lets.filter p): ∀n,wds l n=(wds lets n).filter fun w=>w.all p
 | 0=>rfl
 | n+1=>by
  rw[wds,wds,yr hp n]
  generalize wds lets n=L
  induction L with
  | nil=>rfl
  | cons w L ih =>
   have e1:ext lets (w::L)=(lets.map fun c=>w++ [c])++ext lets L:=rfl
   rw[e1,List.filter_append,<-ih]
   have e2:(lets.map fun c=>w++ [c]).filter (fun w=>w.all p)=if w.all p=true then l.map fun c=>w++ [c] else []:=by
    rw[List.filter_map]
    by_cases c:w.all p=true
    ·rw[if_pos c,hp]
     congr 1
     refine List.filter_congr fun x _=>?_
     simp[Function.comp,List.all_append,c]
    ·rw[if_neg c]
     have:lets.filter ((fun w=>w.all p) ∘ fun c=>w++ [c])= []:=List.filter_eq_nil_iff.2 fun x _=>by
      simp only[Function.comp,List.all_append,ah,not_and]
      exact fun h=>absurd h c
     rw[this];rfl
   rw[e2]
   by_cases c:w.all p=true
   ·rw[if_pos c,show List.filter (fun w:List Int=>w.all p) (w::L)=w::List.filter (fun w:List Int=>w.all p) L from List.filter_cons_of_pos c];rfl
   ·rw[if_neg c,show List.filter (fun w:List Int=>w.all p) (w::L)=List.filter (fun w:List Int=>w.all p) L from List.filter_cons_of_neg c];rfl
theorem Nm {mrec:Int->Option (List (List Int))} {x:List Int} (hx:x.length<=100) {out:List (List Int)} (ho:out.length<=10000):ay (ir mrec x) aS (out,0)=some (.brk (out++lets.map (fun c=>x++ [c]),9)):=by
 have e:=aQ (f:=ir mrec x) (fun j=>(out++((List.range j).map fun (k:Nat)=>(k:Int)).map (fun c=>x++ [c]),(j:Int))) 9 (fun j hj=>by
  have c1:eV x=some x:=by
   unfold eV
   rw[aI (by simp;omega)];rfl
  unfold ir
  simp only
  rw[if_pos (decide_eq_true (by omega)),c1];simp only[aa]
  rw[aI (by simp;omega)];simp only[aa]
  rw[aI (by simp;omega)];simp only[aa]
  rw[af (by omega),List.range_succ]
  simp) (by
  unfold ir
  simp) (fN (by omega))
 simpa [lets] using e
theorem JP: ∀(n m:Nat),n<=3->n<m->fb m (n:Int)=some (wds lets n)
 | 0,m+1,_,_=>by
  rw[fb,if_pos (by simp)];rfl
 | n+1,m+1,h,hm=>by
  have hL:=tx lets (by decide) n (by omega)
  have hpre:i64.wrap (((n+1:Nat):Int) - 1)=(n:Int):=by rw[fg (by omega) (by omega)];omega
  rw[fb,if_neg (by simp;omega),hpre,JP n m (by omega) (by omega)];simp only[aa]
  have e:=aQ (f:=iu (fb m) (wds lets n)) (fun i=>(ext lets ((wds lets n).take i),(i:Int))) (wds lets n).length (fun i hi=>by
   have hwi:=BM lets n _ (List.getElem_mem hi)
   have hel:(ext lets ((wds lets n).take i)).length<=9*729:=by
    rw[od,aA]
    have:lets.length=9:=by decide
    rw[this]
    omega
   unfold iu
   simp only
   rw[eR hi,if_pos rfl,aY hi];simp only[aa]
   rw[aj (Nm (by omega) (by omega)),af (by omega),List.take_succ_eq_append_getElem hi,EF]) (by
   unfold iu
   rw[eU];rfl) (fN (by omega))
  rw[List.take_length] at e
  have e:ay (iu (fb m) (wds lets n)) aS (([] :List (List Int)),0)=_:=e
  rw[aj e];rfl
def mB (x:Tr Tok) (w:List Int):Bool:=(dM x w).getD false
theorem Re {x:Tr Tok} (h:WT x) (hx:(flat x).length<=24) {w:List Int} (hl:w.length<=50) (hw: ∀k∈w,0<=k):dM x w=some (mB x w)/\lB (flat x) w=some (mB x w)/\(mB x w=true↔LX x (w.map Int.toNat)):=by
 obtain ⟨b,e1,h1⟩:=JL hl h (by omega) hw
 obtain ⟨c,e2,h2⟩:=Q8 hl hw h (by omega)
 have hb:mB x w=b:=by unfold mB;rw[e1];rfl
 have:b=c:=by rw[Bool.eq_iff_iff,h1,h2]
 rw[hb]
 exact ⟨e1,by rw[this];exact e2,h1⟩
theorem sv (f:Nat->List (List Int)) (hf: ∀j,j<=3->(f j).length<=729): ∀n,n<=4->((List.range n).flatMap f).length<=729*n
 | 0,_=>by simp
 | n+1,h=>by
  rw[List.range_succ,List.flatMap_append,aw]
  have h1:=sv f hf n (by omega)
  have h2:=hf n (by omega)
  simp only[List.flatMap_cons,List.flatMap_nil,List.append_nil]
  omega
section
variable {x:Tr Tok} (h:WT x) (hx:(flat x).length<=24)
include h hx
theorem Tq {L:Nat} (hL:L<=3):jm (flat x) (L:Int)=some ((List.range (L+1)).flatMap fun j=>(wds lets j).filter (mB x)):=by
 have he:(flat x).length<=1048576:=by omega
 have hFU:=lV
 have hv:bO (flat x)=some true:=by
  rw[jQ he,so h,decide_eq_true hx];rfl
 have hlen: ∀j,j<=3->((wds lets j).filter (mB x)).length<=729:=fun j hj=>Nat.le_trans (List.length_filter_le _ _) (tx lets (by decide) j hj)
 unfold jm
 rw[hv];simp only[aa,if_true]
 rw[Es,decide_eq_true (by omega)];simp only[aa,if_true]
 rw[sr he,nt h];simp only[aa]
 have e:=aQ (f:=fw (L:Int) x) (fun n=>((List.range n).flatMap fun j=>(wds lets j).filter (mB x),(n:Int))) (L+1) (fun n hn=>by
  have hout:=sv (fun j=>(wds lets j).filter (mB x)) hlen n (by omega)
  have hwl:=tx lets (by decide) n (by omega)
  have hin:=BM lets n
  generalize hO:(List.range n).flatMap (fun j=>(wds lets j).filter (mB x))=O at hout⊢
  have e1:=aQ (f:=fv x (wds lets n)) (fun i=>(O++((wds lets n).take i).filter (mB x),(i:Int))) (wds lets n).length (fun i hi=>by
   obtain ⟨q1,q2⟩:=hin _ (List.getElem_mem hi)
   obtain ⟨m1,-,-⟩:=Re h hx (w:=(wds lets n)[i]) (by omega) (fun k hk=>(uU.1 (q2 k hk)).1)
   have hfl:=List.length_filter_le (mB x) ((wds lets n).take i)
   rw[aA] at hfl
   unfold fv
   simp only
   rw[eR hi,if_pos rfl,aY hi];simp only[aa]
   rw[m1];simp only[aa]
   rw[List.take_succ_eq_append_getElem hi,List.filter_append]
   by_cases c:mB x (wds lets n)[i] =true
   ·rw[if_pos c,aI (by simp only[aw,aH,aJ];omega)];simp only[aa]
    rw[af (by omega),List.filter_cons_of_pos c]
    simp
   ·rw[if_neg c];simp only[aa]
    rw[af (by omega),List.filter_cons_of_neg c]
    simp) (by
   unfold fv
   rw[eU];rfl) (fN (by omega))
  rw[List.take_length] at e1
  have e1:ay (fv x (wds lets n)) aS (O,0)=some (.brk (O++(wds lets n).filter (mB x),((wds lets n).length:Int))):=by simpa using e1
  unfold fw
  simp only
  rw[if_pos (decide_eq_true (by omega)),JP n cF (by omega) (by omega)];simp only[aa]
  rw[aj e1,af (by omega),List.range_succ,List.flatMap_append,hO]
  simp) (by
  unfold fw
  simp only
  rw[if_neg (by simp;omega)]) (fN (by omega))
 have e:ay (fw (L:Int) x) aS (([] :List (List Int)),0)=_:=e
 rw[aj e]
theorem Ts {L:Nat} (hL:L<=3) {l:List Int} (hl9:l.length<=9) (hal:kg (flat x)=some l) (hl0: ∀c∈l,0<=c):gz (flat x) (L:Int)=some ((List.range (L+1)).flatMap fun j=>(wds l j).filter (mB x)):=by
 have he:(flat x).length<=1048576:=by omega
 have hv:bN (flat x)=some true:=by
  rw[jP he,so h,decide_eq_true hx];rfl
 have hlen: ∀j,j<=3->((wds l j).filter (mB x)).length<=729:=fun j hj=>Nat.le_trans (List.length_filter_le _ _) (tx l hl9 j hj)
 unfold gz
 rw[hv];simp only[aa,if_true]
 rw[KJ,decide_eq_true (by omega)];simp only[aa,if_true]
 rw[hal];simp only[aa]
 have e:=aQ (f:=fo (flat x) (L:Int) l) (fun n=>((List.range n).flatMap (fun j=>(wds l j).filter (mB x)),wds l n,(n:Int))) (L+1) (fun n hn=>by
  have hout:=sv (fun j=>(wds l j).filter (mB x)) hlen n (by omega)
  have hwl:=tx l hl9 n (by omega)
  have hin:=BM l n
  generalize hO:(List.range n).flatMap (fun j=>(wds l j).filter (mB x))=O at hout⊢
  have e1:=aQ (f:=fm (flat x) l) (fun i=>(O++((wds l n).take i).filter (mB x),ext l ((wds l n).take i),(i:Int),wds l n)) (wds l n).length (fun i hi=>by
   obtain ⟨q1,q2⟩:=hin _ (List.getElem_mem hi)
   obtain ⟨-,m1,-⟩:=Re h hx (w:=(wds l n)[i]) (by omega) (fun k hk=>hl0 k (q2 k hk))
   have hfl:=List.length_filter_le (mB x) ((wds l n).take i)
   have hel:(ext l ((wds l n).take i)).length<=9*729:=by
    rw[od,aA]
    exact Nat.mul_le_mul hl9 (by omega)
   rw[aA] at hfl
   have hj: ∀(s6:(List (List Int))×(List (List Int))×Int×List (List Int)) (s14:(List (List Int))×List (List Int)),s6.2.2.1=(i:Int)->s14.2=wds l n->ay (fl l s6 s14) aS (ext l ((wds l n).take i),0)=some (.brk (ext l ((wds l n).take i)++l.map (fun c=>(wds l n)[i] ++ [c]),(l.length:Int))):=fun s6 s14 g1 g2=>by
    have e2:=aQ (f:=fl l s6 s14) (fun j=>(ext l ((wds l n).take i)++(l.take j).map (fun c=>(wds l n)[i] ++ [c]),(j:Int))) l.length (fun j hj=>by
     unfold fl
     simp only
     rw[eR hj,if_pos rfl,g1,g2,aY hi];simp only[aa]
     rw[aI (by simp only[aJ];omega)];simp only[aa]
     rw[aY hj];simp only[aa,List.nil_append]
     rw[aI (by simp only[aH,aJ];omega)];simp only[aa]
     rw[aI (by simp only[aw,List.length_map,aA,aH,aJ];omega)];simp only[aa]
     rw[af (by omega),List.take_succ_eq_append_getElem hj,aM,<-aB];rfl) (by
     unfold fl
     rw[eU];rfl) (fN (by omega))
    rw[List.take_length] at e2
    simpa using e2
   unfold fm
   simp only
   rw[eR hi,if_pos rfl,aY hi];simp only[aa]
   rw[m1];simp only[aa]
   rw[List.take_succ_eq_append_getElem hi,List.filter_append,EF]
   by_cases c:mB x (wds l n)[i] =true
   ·rw[if_pos c,aI (by simp only[aJ];omega)];simp only[aa]
    rw[aI (by simp only[aw,aH,aJ];omega)];simp only[aa]
    rw[aj (hj _ _ rfl rfl),af (by omega),List.filter_cons_of_pos c]
    simp
   ·rw[if_neg c];simp only[aa]
    rw[aj (hj _ _ rfl rfl),af (by omega),List.filter_cons_of_neg c]
    simp) (by
   unfold fm
   simp only
   rw[eU];rfl) (fN (by omega))
  rw[List.take_length] at e1
  have e1:ay (fm (flat x) l) aS (O,([] :List (List Int)),0,wds l n)=some (.brk (O++(wds l n).filter (mB x),ext l (wds l n),((wds l n).length:Int),wds l n)):=by simpa [ext] using e1
  unfold fo
  simp only
  rw[if_pos (decide_eq_true (by omega)),aj e1,af (by omega),List.range_succ,List.flatMap_append,hO]
  simp[wds]) (by
  unfold fo
  simp only
  rw[if_neg (by simp;omega)]) (fN (by omega))
 have e:ay (fo (flat x) (L:Int) l) aS (([] :List (List Int)),[([] :List Int)],0)=_:=e
 rw[aj e]
end
end D
namespace D
abbrev Pr:=Int×Int
def ltP (a b:Pr):Prop:=a.1<b.1\/a.1=b.1/\a.2<b.2
instance (a b:Pr):Decidable (ltP a b):=inferInstanceAs (Decidable (_\/_))
theorem C4 (a:Pr): ¬ltP a a:=by unfold ltP;omega
theorem BN {a b c:Pr} (h:ltP a b) (k:ltP b c):ltP a c:=by unfold ltP at *;omega
theorem JQ {a b:Pr} (h:ltP a b): ¬ltP b a:=by unfold ltP at *;omega
theorem C5 (a b:Pr):ltP a b\/a=b\/ltP b a:=by
 unfold ltP
 by_cases h:a=b
 ·exact .inr (.inl h)
 ·have: ¬(a.1=b.1/\a.2=b.2):=fun e=>h (Prod.ext e.1 e.2)
  omega
abbrev Str (l:List Pr):Prop:=l.Pairwise ltP
theorem sw: ∀ {l m:List Pr},Str l->Str m->(∀x,x∈l↔x∈m)->l=m
 | [],[],_,_,_=>rfl
 | [],b::m,_,_,h=>absurd ((h b).2 (List.mem_cons_self ..)) (by simp)
 | a::l,[],_,_,h=>absurd ((h a).1 (List.mem_cons_self ..)) (by simp)
 | a::l,b::m,hl,hm,h=>by
  obtain ⟨l1,l2⟩:=List.pairwise_cons.1 hl
  obtain ⟨m1,m2⟩:=List.pairwise_cons.1 hm
  have hab:a=b:=by
   rcases ax ((h a).1 (List.mem_cons_self ..)) with e | e
   ·exact e
   ·rcases ax ((h b).2 (List.mem_cons_self ..)) with f | f
    ·exact f.symm
    ·exact absurd (m1 a e) (JQ (l1 b f))
  subst hab
  rw[sw l2 m2 fun x=>?_]
  constructor
  ·intro hx
   rcases ax ((h x).1 (br _ hx)) with e | e
   ·subst e;exact absurd (l1 x hx) (C4 x)
   ·exact e
  ·intro hx
   rcases ax ((h x).2 (br _ hx)) with e | e
   ·subst e;exact absurd (m1 x hx) (C4 x)
   ·exact e
def ahd (p:Pr):List Pr->Nat
 | [] =>0
 | a::l=>if ltP a p then ahd p l+1 else 0
theorem JR (p:Pr): ∀l:List Pr,ahd p l<=l.length
 | [] =>aF _
 | a::l=>by
  unfold ahd
  split
  ·have:=JR p l;rw[aH];omega
  ·exact Nat.zero_le _
theorem OL (p:Pr): ∀(l:List Pr) (i:Nat),i<ahd p l-> ∃x,l[i]? =some x/\ltP x p
 | [],i,h=>by simp[ahd] at h
 | a::l,i,h=>by
  unfold ahd at h
  split at h
  ·rename_i ha
   cases i with
   | zero=>exact ⟨a,rfl,ha⟩
   | succ i =>
    obtain ⟨x,h1,h2⟩:=OL p l i (by omega)
    exact ⟨x,by simpa using h1,h2⟩
  ·omega
theorem OM (p:Pr): ∀(l:List Pr) x,l[ahd p l]? =some x-> ¬ltP x p
 | [],x,h=>by simp at h
 | a::l,x,h=>by
  unfold ahd at h
  split at h
  ·exact OM p l x (by simpa using h)
  ·rename_i ha
   simp at h
   subst h;exact ha
def put (l:List Pr) (p:Pr):List Pr:=if l[ahd p l]? =some p then l else l.take (ahd p l)++p::l.drop (ahd p l)
theorem EG (a:Pr) (l:List Pr) (p:Pr):put (a::l) p=if ltP a p then a::put l p else if a=p then a::l else p::a::l:=by
 unfold put
 by_cases h:ltP a p
 ·have e:ahd p (a::l)=ahd p l+1:=by rw[ahd,if_pos h]
  rw[e,if_pos h]
  by_cases k:l[ahd p l]? =some p
  ·rw[if_pos (by simpa using k),if_pos k]
  ·rw[if_neg (by simpa using k),if_neg k];rfl
 ·have e:ahd p (a::l)=0:=by rw[ahd,if_neg h]
  rw[e,if_neg h]
  by_cases k:a=p
  ·rw[if_pos (by simp[k]),if_pos k]
  ·rw[if_neg (by simpa using k),if_neg k];rfl
theorem C6 {x p:Pr} : ∀l:List Pr,x∈put l p↔x=p\/x∈l
 | [] =>by simp[put,ahd]
 | a::l=>by
  rw[EG]
  split
  ·rw[List.mem_cons,C6 l,List.mem_cons];grind
  ·split
   ·rename_i e;subst e;rw[List.mem_cons];grind
   ·rw[List.mem_cons]
theorem JS {p:Pr} : ∀ {l:List Pr},Str l->Str (put l p)
 | [],_=>by simp[put,ahd]
 | a::l,h=>by
  obtain ⟨h1,h2⟩:=List.pairwise_cons.1 h
  rw[EG]
  split
  ·rename_i ha
   refine List.pairwise_cons.2 ⟨fun x hx=>?_,JS h2⟩
   rcases (C6 l).1 hx with rfl | hx
   ·exact ha
   ·exact h1 x hx
  ·rename_i ha
   split
   ·exact h
   ·rename_i hn
    have hp:ltP p a:=by
     rcases C5 p a with c | c | c
     ·exact c
     ·exact absurd c.symm hn
     ·exact absurd c ha
    refine List.pairwise_cons.2 ⟨fun x hx=>?_,h⟩
    rcases ax hx with rfl | hx
    ·exact hp
    ·exact BN hp (h1 x hx)
def puts (l m:List Pr):List Pr:=m.foldl put l
theorem mu: ∀ {m l:List Pr},Str l->Str (puts l m)
 | [],l,h=>h
 | p::m,l,h=>mu (m:=m) (JS h)
theorem j7 {x:Pr} : ∀ {m l:List Pr},x∈puts l m↔x∈l\/x∈m
 | [],l=>by simp[puts]
 | p::m,l=>by
  show x∈puts (put l p) m↔_
  rw[j7,C6,List.mem_cons];grind
def nub:List Pr->List Pr
 | [] =>[]
 | [a] =>[a]
 | a::b::l=>if a=b then nub (b::l) else a::nub (b::l)
theorem zS {x:Pr} : ∀ {l:List Pr},x∈nub l↔x∈l
 | [] =>Iff.rfl
 | [a] =>Iff.rfl
 | a::b::l=>by
  rw[nub]
  split
  ·rename_i e;subst e;rw[zS];simp
  ·rw[List.mem_cons,zS,List.mem_cons (l:=b::l)]
theorem C7: ∀ {l:List Pr},l.Pairwise (fun a b=> ¬ltP b a)->Str (nub l)
 | [],_=>List.Pairwise.nil
 | [a],_=>by simp[nub]
 | a::b::l,h=>by
  obtain ⟨h1,h2⟩:=List.pairwise_cons.1 h
  rw[nub]
  split
  ·exact C7 h2
  ·rename_i hn
   refine List.pairwise_cons.2 ⟨fun x hx=>?_,C7 h2⟩
   have hab:ltP a b:=by
    rcases C5 a b with c | c | c
    ·exact c
    ·exact absurd c hn
    ·exact absurd c (h1 b (List.mem_cons_self ..))
   rcases ax (zS.1 hx) with rfl | hx
   ·exact hab
   ·rcases C5 b x with c | c | c
    ·exact BN hab c
    ·subst c;exact hab
    ·exact absurd c ((List.pairwise_cons.1 h2).1 x hx)
end D
namespace D
open Go.RowKit
theorem JT {α R:Type} {f:Int->Option (Out R Int)} (l:List α) (b:α->Bool) (r:Nat->R) (hN:l.length<=9223372036854775807) (h: ∀i (hi:i<l.length),f (i:Int)=some (if b l[i] then .ret (r i) else .nxt ((i+1:Nat):Int))) (he:f (l.length:Int)=some (.brk (l.length:Int))) :
  (∃(i:Nat) (hi:i<l.length),b l[i] =true/\(∀j (hj:j<i),b (l[j]'(by omega))=false)/\ay f aS 0=some (.ret (r i)))\/((∀x,x∈l->b x=false)/\ay f aS 0=some (.brk (l.length:Int))):=by
 obtain ⟨o,e,hQ⟩:=cE (f:=f) (fun i s=>s=(i:Int)/\ ∀j (hj:j<l.length),j<i->b l[j] =false) (fun o=>(∃(i:Nat) (hi:i<l.length),b l[i] =true/\(∀j (hj:j<i),b (l[j]'(by omega))=false)/\o= .ret (r i))\/((∀x,x∈l->b x=false)/\o= .brk (l.length:Int))) l.length (fun i s hi hI=>by
  obtain ⟨rfl,hI⟩:=hI
  by_cases h1:i<l.length
  ·cases hb:b l[i] with
   | true=>exact .inr ⟨_,by rw[h i h1,hb,if_pos rfl],fun s' hh=>by simp at hh,.inl ⟨i,h1,hb,fun j hj=>hI j (by omega) hj,by simp⟩⟩
   | false=>exact .inl ⟨h1,_,by rw[h i h1,hb,if_neg (by simp)],rfl,fun j hj hji=>by
     by_cases c:j=i
     ·subst c;exact hb
     ·exact hI j hj (by omega)⟩
  ·obtain rfl:i=l.length:=by omega
   exact .inr ⟨_,he,fun s' hh=>by simp at hh,.inr ⟨fun x hx=>by
    obtain ⟨j,hj,rfl⟩:=List.getElem_of_mem hx
    exact hI j hj hj,rfl⟩⟩) (s:=0) ⟨rfl,fun j hj h0=>by omega⟩ (nm _ hN)
 rcases hQ with ⟨i,hi,h1,h2,rfl⟩ | ⟨h1,rfl⟩
 ·exact .inl ⟨i,hi,h1,h2,e⟩
 ·exact .inr ⟨h1,e⟩
section
variable {l m:List Pr} {p:Pr}
theorem Vn {a b:Pr} :((a.1==b.1)&&((a.2==b.2)&&true))=decide (a=b):=by
 rw[Bool.eq_iff_iff];simp[Prod.ext_iff]
theorem Vo {a b:Pr} :(Bool.and.match_1 (fun (_:Bool)=>Bool) (a.1==b.1) (fun (_:Unit)=>false) (fun (_:Unit)=>Bool.and.match_1 (fun (_:Bool)=>Bool) (a.2==b.2) (fun (_:Unit)=>false) (fun (_:Unit)=>true)))=decide (a=b):=Vn
theorem Vp (hl:l.length<=1073741824):pX l p=some (decide (p∈l)):=by
 unfold pX
 rcases JT (f:=kT l p) l (fun x=>decide (x=p)) (fun _=>true) (by omega) (fun i hi=>by
   unfold kT
   rw[eR hi,if_pos rfl,aY hi]
   simp only[aa,Vn,af (show i<9223372036854775807 by omega)]
   split <;> rfl) (by
   unfold kT
   rw[eU];rfl) with ⟨i,hi,h1,-,e⟩ | ⟨h1,e⟩
 ·rw[bu e,decide_eq_true (by rw[<-of_decide_eq_true h1];exact List.getElem_mem hi)]
 ·rw[aj e,decide_eq_false fun hm=>by have:=h1 p hm;simp at this]
theorem Vq (hl:l.length<=1073741824): ∃r:Int,bW l p=some r/\(0<=r↔p∈l):=by
 unfold bW
 rcases JT (f:=bG l p) l (fun x=>decide (p=x)) (fun i=>(i:Int)) (by omega) (fun i hi=>by
   unfold bG
   rw[eR hi,if_pos rfl,aY hi]
   simp only[aa,Vn,af (show i<9223372036854775807 by omega)]
   split <;> rfl) (by
   unfold bG
   rw[eU];rfl) with ⟨i,hi,h1,-,e⟩ | ⟨h1,e⟩
 ·exact ⟨_,bu e,by
   have:p∈l:=by rw[of_decide_eq_true h1];exact List.getElem_mem hi
   simp[this]⟩
 ·exact ⟨_,aj e,by
   have:p∉l:=fun hm=>by have:=h1 p hm;simp at this
   simp[this]⟩
theorem Vr (hl:l.length<=1073741824):bH l p=some (decide (p∈l)):=by
 unfold bH
 obtain ⟨r,e,h⟩:=Vq (l:=l) (p:=p) hl
 rw[kH,e,aa]
 congr 1
 rw[Bool.eq_iff_iff,decide_eq_true_iff,decide_eq_true_iff]
 exact h
theorem JU (a b:Pr):jH a b=some (decide (ltP a b)):=by
 unfold jH ltP
 by_cases h:a.1<b.1
 ·simp[h]
 ·by_cases k:a.1=b.1 <;> simp[h,k]
theorem Tt (a b:Pr): ∃r:Int,fu a b=some r/\(0<=r↔ ¬ltP a b):=by
 unfold fu jk ltP
 by_cases k:a.1=b.1
 ·by_cases h:a.2<b.2
  ·exact ⟨-1,by simp[k,h],by simp[k,h]⟩
  ·by_cases h2:b.2<a.2
   ·exact ⟨1,by simp[k,h,h2],by simp[k,h]⟩
   ·exact ⟨0,by simp[k,h,h2],by simp[k,h]⟩
 ·by_cases h:a.1<b.1
  ·exact ⟨-1,by simp[k,h],by simp[k,h]⟩
  ·have h2:b.1<a.1:=by omega
   exact ⟨1,by simp[k,h,h2],by simp[k,h]⟩
theorem EH:fV l=ga l:=by
 unfold fV ga
 have e:lD l=fZ l:=by
  funext s
  unfold lD fZ
  have hw:bQ=a8:=rfl
  rw[hw]
  cases hg:aL l s with
  | none=>rfl
  | some x =>
   have hk: ∀y:Pr,((jH (y.1,y.2) (x.1,x.2)).bind fun r9=>if r9=true then some (Out.nxt (R:=Bool) (i64.wrap (s+1))) else some (Out.ret false))=((fu (y.1,y.2) (x.1,x.2)).bind fun r9=>if decide (r9≥0)=true then some (Out.ret false) else some (Out.nxt (i64.wrap (s+1)))):=fun y=>by
    rw[JU]
    obtain ⟨r,e,h⟩:=Tt (y.1,y.2) (x.1,x.2)
    rw[e]
    simp only[aa,kH] at h⊢
    by_cases c:ltP y x
    ·rw[if_pos (decide_eq_true c),if_neg (by simpa using fun q=>(h.1 q) c)]
    ·rw[if_neg (by simpa using c),if_pos (by simpa using h.2 c)]
   simp only[aa,hk]
 rw[e]
end
end D
namespace D
open Go.RowKit
theorem JV (l:List Pr) (p:Pr):(put l p).length<=l.length+1:=by
 have:=JR p l
 unfold put
 split
 ·omega
 ·rw[aw,aA,aH,bc];omega
theorem mw: ∀(m l:List Pr),(puts l m).length<=l.length+m.length
 | [],l=>aF _
 | p::m,l=>by
  have h1:=mw m (put l p)
  have h2:=JV l p
  show (puts (put l p) m).length<=_
  rw[aH];omega
theorem sx (l m:List Pr) (p:Pr):puts l (m++ [p])=put (puts l m) p:=by simp[puts]
theorem C8 (l:List Pr) (p:Pr) (hl:l.length<=1073741824):gB l p=some (put l p):=by
 have hk:=JR p l
 have e:ay (kS l p) aS 0=some (.brk ((ahd p l:Nat):Int)):=by
  obtain ⟨o,e,rfl⟩:=cE (f:=kS l p) (fun i s=>s=(i:Int)) (fun o=>o= .brk ((ahd p l:Nat):Int)) (ahd p l) (fun i s hi hI=>by
   subst hI
   unfold kS
   by_cases h1:i<ahd p l
   ·obtain ⟨x,g1,g2⟩:=OL p l i h1
    have hil:i<l.length:=by omega
    rw[List.getElem?_eq_getElem hil] at g1
    obtain rfl:=ae g1
    refine .inl ⟨h1,((i+1:Nat):Int),?_,rfl⟩
    rw[eR hil,if_pos rfl,aY hil]
    simp only[aa,JU,kH]
    rw[if_pos (decide_eq_true g2),af (by omega)]
   ·obtain rfl:i=ahd p l:=by omega
    refine .inr ⟨_,?_,fun s' hh=>(by simp at hh),rfl⟩
    by_cases hil:ahd p l<l.length
    ·have g:=OM p l _ (List.getElem?_eq_getElem hil)
     rw[eR hil,if_pos rfl,aY hil]
     simp only[aa,JU,kH]
     rw[if_neg (by simpa using g)]
    ·rw[if_neg (by simp;omega)]) (s:=0) rfl (nm _ (by omega))
  exact e
 unfold gB
 rw[aj e]
 have c1:chk ((0:Int)<=((ahd p l:Nat):Int)/\((ahd p l:Nat):Int)<=(l.length:Int))=some ():=if_pos (by omega)
 have a1:cR 16 ([] :List Pr) ((l.take (ahd p l)).drop 0)=some (l.take (ahd p l)):=by
  rw[List.drop_zero,aI (by simp only[aJ,aA];omega)];rfl
 have a2:cR 16 (l.take (ahd p l)) [p] =some (l.take (ahd p l)++ [p]):=aI (by simp only[List.length_singleton,aA];omega)
 have a3:cR 16 (l.take (ahd p l)++ [p]) ((l.take l.length).drop (ahd p l))=some (l.take (ahd p l)++p::l.drop (ahd p l)):=by
  rw[List.take_of_length_le (aF _),aI (by simp only[aw,List.length_singleton,aA,bc];omega),aB];rfl
 simp only[c1,aa,Int.toNat_natCast,a1,a2,a3,kH]
 unfold put
 by_cases hil:ahd p l<l.length
 ·rw[eR hil,if_pos rfl,aY hil]
  simp only[aa,Vo]
  rw[List.getElem?_eq_getElem hil]
  by_cases h:l[ahd p l] =p
  ·rw[if_pos (decide_eq_true h),if_pos (by rw[h])]
  ·rw[if_neg (by simpa using h),if_neg (by simpa using h)]
 ·rw[if_neg (by simp;omega),List.getElem?_eq_none (by omega),if_neg (by simp)]
theorem C9 {a b:List Pr} (ha:a.length<=67108864) (hb:b.length<=67108864):fA a b=some (puts [] (a++b)):=by
 unfold fA
 obtain ⟨s1,e1,rfl⟩:=be (f:=gC a) (fun i s=>s=(puts [] (a.take i),(i:Int))) a.length (fun i s hi hI=>by
  subst hI
  have hln:=mw (a.take i) []
  rw[aA] at hln
  refine ⟨_,?_,rfl⟩
  unfold gC
  rw[eR hi,if_pos rfl,aY hi]
  simp only[aa,kH]
  rw[C8 _ _ (by simp only[aJ] at hln;omega)]
  simp only[aa]
  rw[af (by omega),List.take_succ_eq_append_getElem hi,sx]) (fun s hI=>by
  subst hI
  unfold gC
  rw[eU];rfl) (s:=(([] :List Pr),0)) rfl (nm _ (by omega))
 rw[aj e1,List.take_of_length_le (aF _)]
 obtain ⟨s2,e2,rfl⟩:=be (f:=gD b) (fun i s=>s=(puts [] (a++b.take i),(i:Int))) b.length (fun i s hi hI=>by
  subst hI
  have hln:=mw (a++b.take i) []
  rw[aw,aA] at hln
  refine ⟨_,?_,rfl⟩
  unfold gD
  rw[eR hi,if_pos rfl,aY hi]
  simp only[aa,kH]
  rw[C8 _ _ (by simp only[aJ] at hln;omega)]
  simp only[aa]
  rw[af (by omega),List.take_succ_eq_append_getElem hi,<-aB,sx]) (fun s hI=>by
  subst hI
  unfold gD
  rw[eU];rfl) (s:=(puts [] a,0)) (by simp) (nm _ (by omega))
 rw[aj e2,List.take_of_length_le (aF _)]
end D
namespace D
open Go.RowKit
theorem EI: ∀(l:List Pr) (b:Pr),l≠ [] ->nub (l++ [b])=if l.getLast? =some b then nub l else nub l++ [b]
 | [],b,h=>absurd rfl h
 | [a],b,_=>by
  by_cases e:a=b
  ·subst e;simp[nub]
  ·simp[nub,e]
 | a::c::l,b,_=>by
  have ih:=EI (c::l) b (by simp)
  have hg:(a::c::l).getLast? =(c::l).getLast? :=by simp[List.getLast?_cons_cons]
  rw[hg]
  show nub (a::c::(l++ [b]))=_
  rw[nub,nub]
  rw[show c::(l++ [b])=(c::l)++ [b] from rfl,ih]
  by_cases e:a=c
  ·rw[if_pos e,if_pos e]
  ·rw[if_neg e,if_neg e]
   split <;> simp
theorem zT {xs:List Pr} {j:Nat} (h0:0<j) (h:j<xs.length):nub (xs.take (j+1))=if xs[j - 1] =xs[j] then nub (xs.take j) else nub (xs.take j)++ [xs[j]]:=by
 rw[List.take_succ_eq_append_getElem h,EI _ _ (by
  intro e
  have h9:=congrArg List.length e
  rw[aA,Nat.min_eq_left (Nat.le_of_lt h),aJ] at h9
  omega)]
 have hg:(xs.take j).getLast? =some xs[j - 1]:=by
  rw[List.getLast?_eq_getElem?,aA,Nat.min_eq_left (Nat.le_of_lt h),List.getElem?_take,if_pos (show j - 1<j by omega),List.getElem?_eq_getElem (show j - 1<xs.length by omega)]
 rw[hg]
 by_cases e:xs[j - 1] =xs[j]
 ·rw[if_pos (by rw[e]),if_pos e]
 ·rw[if_neg (by simpa using e),if_neg e]
theorem EJ {xs:List Pr} : ∀(j:Nat),j<=xs.length->(∀q (hq:q<j) (h0:0<q) (hx:j<=xs.length),xs[q - 1]'(by omega)≠xs[q]'(by omega))->nub (xs.take j)=xs.take j
 | 0,_,_=>by simp[nub]
 | 1,h,_=>by
  cases xs with
  | nil=>simp[nub]
  | cons a l=>simp[nub]
 | j+2,h,hq=>by
  rw[zT (by omega) (by omega),if_neg (hq (j+1) (by omega) (by omega) h),EJ (j+1) (by omega) (fun q h1 h2 h3=>hq q (by omega) h2 h),<-List.take_succ_eq_append_getElem]
end D
namespace D
open Go.RowKit
theorem JW (l:List Pr) (hl:l.length<=1073741824): ∃b,ga l=some b:=by
 unfold ga
 obtain ⟨o,e,hQ⟩:=cE (f:=fZ l) (fun i s=>s=(i:Int)) (fun o=>o= .ret false\/ ∃s,o= .brk s) l.length (fun i s hi hI=>by
  subst hI
  unfold fZ a8
  by_cases h1:i<l.length
  ·rw[eR h1,if_pos rfl,aY h1,af (by omega)]
   have fin: ∀c:Prop,[Decidable c] ->(i<l.length/\ ∃s',(if c then some (.ret false) else some (.nxt ((i+1:Nat):Int)):Option (Out Bool Int))=some (.nxt s')/\s'=((i+1:Nat):Int))\/ ∃o,(if c then some (.ret false) else some (.nxt ((i+1:Nat):Int)):Option (Out Bool Int))=some o/\(∀s',o≠ .nxt s')/\(o= .ret false\/ ∃s,o= .brk s):=by
    intro c _
    split
    ·exact .inr ⟨_,rfl,fun s' h=>by simp at h,.inl rfl⟩
    ·exact .inl ⟨h1,_,rfl,rfl⟩
   have bad:(i<l.length/\ ∃s',(some (.ret false):Option (Out Bool Int))=some (.nxt s')/\s'=((i+1:Nat):Int))\/ ∃o,(some (.ret false):Option (Out Bool Int))=some o/\(∀s',o≠ .nxt s')/\(o= .ret false\/ ∃s,o= .brk s):=.inr ⟨_,rfl,fun s' h=>by simp at h,.inl rfl⟩
   have good:(i<l.length/\ ∃s',(some (.nxt ((i+1:Nat):Int)):Option (Out Bool Int))=some (.nxt s')/\s'=((i+1:Nat):Int))\/ ∃o,(some (.nxt ((i+1:Nat):Int)):Option (Out Bool Int))=some o/\(∀s',o≠ .nxt s')/\(o= .ret false\/ ∃s,o= .brk s):=.inl ⟨h1,_,rfl,rfl⟩
   by_cases c1:l[i].1≥0
   ·by_cases c2:l[i].1<=4
    ·by_cases c3:l[i].2≥0
     ·by_cases c4:l[i].2<=4
      ·by_cases c5:(i:Int)>0
       ·have hp:i64.wrap ((i:Int) - 1)=((i - 1:Nat):Int):=by rw[fg (by omega) (by omega)];omega
        obtain ⟨r,er,-⟩:=Tt l[i - 1] l[i]
        simp only[aa,c1,c2,c3,c4,c5,decide_true,if_true,hp,aY (show i - 1<l.length by omega),kH,er]
        exact fin _
       ·simp only[aa,c1,c2,c3,c4,c5,decide_true,if_true,decide_false,Bool.false_eq_true,if_false]
        exact good
      ·simp only[aa,c1,c2,c3,c4,decide_true,if_true,decide_false,Bool.false_eq_true,if_false]
       exact bad
     ·simp only[aa,c1,c2,c3,decide_true,if_true,decide_false,Bool.false_eq_true,if_false]
      exact bad
    ·simp only[aa,c1,c2,decide_true,if_true,decide_false,Bool.false_eq_true,if_false]
     exact bad
   ·simp only[aa,c1,decide_false,Bool.false_eq_true,if_false]
    exact bad
  ·obtain rfl:i=l.length:=by omega
   rw[eU]
   exact .inr ⟨_,rfl,fun s' h=>by simp at h,.inr ⟨_,rfl⟩⟩) (s:=0) rfl (nm _ (by omega))
 rcases hQ with rfl | ⟨s,rfl⟩
 ·exact ⟨_,bu e⟩
 ·exact ⟨_,aj e⟩
end D
namespace D
open Go.RowKit
theorem JX (xs:List Pr) (hl:xs.length<=1073741824):bL xs=some (nub xs):=by
 unfold bL
 by_cases h2:xs.length<2
 ·rw[if_pos (by simp;omega)]
  cases xs with
  | nil=>rfl
  | cons a l =>
   cases l with
   | nil=>rfl
   | cons b l=>simp only[aH] at h2;omega
 rw[if_neg (by simp;omega)]
 have key:(ay (bd xs) aS 1=some (.ret (nub xs)))\/(∃s,ay (bd xs) aS 1=some (.brk s)/\nub xs=xs):=by
  obtain ⟨o,e,hQ⟩:=cE (f:=bd xs) (fun t s=>s=((t+1:Nat):Int)/\nub (xs.take (t+1))=xs.take (t+1)) (fun o=>o= .ret (nub xs)\/ ∃s,o= .brk s/\nub xs=xs) (xs.length - 1) (fun t s ht hI=>by
   obtain ⟨rfl,hI⟩:=hI
   unfold bd
   by_cases h1:t+1<xs.length
   ·have hp:((t+1:Nat):Int) - 1=((t:Nat):Int):=by omega
    rw[eR h1,if_pos rfl,aY h1,fg (n:=((t+1:Nat):Int) - 1) (by omega) (by omega),hp,aY (show t<xs.length by omega)]
    simp only[aa,Vo]
    have hn:=zT (xs:=xs) (j:=t+1) (by omega) h1
    rw[hI] at hn
    simp only[Nat.add_sub_cancel] at hn
    by_cases he:xs[t+1] =xs[t]
    ·rw[if_pos (decide_eq_true he),C3 (by omega),aa]
     rw[if_pos he.symm] at hn
     have hlt:(xs.take (t+1)).length=t+1:=by rw[aA];omega
     obtain ⟨s,e1,ys,rfl,k1,k2,k3,k4⟩:=be (f:=bC xs ((t+1:Nat):Int)) (fun u s=> ∃ys:List Pr,s=(((nub (xs.take (t+2+u))).length:Int),((u+1:Nat):Int),ys)/\ys.length=xs.length/\ys.take (nub (xs.take (t+2+u))).length=nub (xs.take (t+2+u))/\ys.drop (t+1+u)=xs.drop (t+1+u)/\(nub (xs.take (t+2+u))).length<=t+1+u) (xs.length - (t+2)) (fun u s hu hI=>by
      obtain ⟨ys,rfl,k1,k2,k3,k4⟩:=hI
      have hj:t+2+u<xs.length:=by clear k4 k2;omega
      have hj1:t+1+u<xs.length:=by clear k4 k2;omega
      have hj2:t+2+u<ys.length:=by clear k4 k2;omega
      have hj3:t+1+u<ys.length:=by clear k4 k2;omega
      have a1:(0+((t+1:Nat):Int))+((u+1:Nat):Int)=((t+2+u:Nat):Int):=by omega
      have a2:((u+1:Nat):Int) - 1=((u:Nat):Int):=by omega
      have a3:(0+((t+1:Nat):Int))+((u:Nat):Int)=((t+1+u:Nat):Int):=by omega
      unfold bC
      dsimp only
      rw[if_pos (by simp;omega),C3 (by omega)]
      simp only[aa]
      rw[fg (n:=((u+1:Nat):Int) - 1) (by omega) (by omega),a1,a2,a3,aY (xs:=ys) hj2,aY (xs:=ys) hj3,C3 (by omega),EE k3 (by omega) hj2 hj,EE k3 (aF _) hj3 hj1]
      simp only[aa,Vo,kH]
      have e9:t+2+u - 1=t+1+u:=by clear k4 k2;omega
      have e8:0<t+2+u:=by clear k4 k2;omega
      have hnx:=zT (xs:=xs) (j:=t+2+u) e8 hj
      simp only[e9] at hnx
      have hd:=JN k3
      rw[show t+1+u+1=t+1+(u+1) from by omega] at hd
      rw[show t+2+(u+1)=t+2+u+1 from by omega,hnx]
      generalize nub (xs.take (t+2+u))=K at *
      by_cases hq:xs[t+2+u] =xs[t+1+u]
      ·rw[if_pos (decide_eq_true hq),if_pos hq.symm]
       simp only[aa]
       rw[af (by omega)]
       exact ⟨_,rfl,ys,rfl,k1,k2,hd,by omega⟩
      ·rw[if_neg (by simpa using hq),if_neg (fun e=>hq e.symm),aY (xs:=ys) (show K.length<ys.length by omega)]
       simp only[aa]
       rw[af (by omega),af (by omega)]
       refine ⟨_,rfl,ys.set K.length xs[t+2+u],?_,by simpa using k1,?_,?_,?_⟩
       ·rw[aw,List.length_singleton];rfl
       ·rw[aw,List.length_singleton,Nl (by omega),k2]
       ·rw[set_drop (by omega)];exact hd
       ·rw[aw,List.length_singleton];omega) (fun s hI=>by
      obtain ⟨ys,rfl,k1,k2,k3,k4⟩:=hI
      unfold bC
      rw[if_neg (by simp;omega)]) (s:=(((t+1:Nat):Int),1,xs)) ⟨xs,by rw[Nat.add_zero,hn,hlt];rfl,rfl,by rw[Nat.add_zero,hn,hlt],rfl,by rw[Nat.add_zero,hn,hlt];omega⟩ (nm _ (by omega))
     refine .inr ⟨.ret (nub xs),?_,fun s' hh=>(by simp at hh),.inl rfl⟩
     rw[aj e1]
     have hall:xs.take (t+2+(xs.length - (t+2)))=xs:=List.take_of_length_le (by omega)
     rw[hall] at k2 k4⊢
     generalize nub xs=K at *
     have q0:K.length<=ys.length:=by omega
     have z1:((0:Int)+((K.length:Nat):Int)).toNat=K.length:=by omega
     have z2:((0:Int)+(((ys.length:Nat):Int) - 0)).toNat=ys.length:=by omega
     simp only[z1,z2]
     have zl:=JM (z:=((0,0):Pr)) q0
     rw[C3 (by omega),aa,C3 (by omega),aa,C3 (by rw[zl];omega),aa,GE q0,k2,List.drop_zero]
    ·rw[if_neg (by simpa using he),af (by omega)]
     rw[if_neg (fun e=>he e.symm),<-List.take_succ_eq_append_getElem h1] at hn
     exact .inl ⟨by omega,_,rfl,rfl,hn⟩
   ·refine .inr ⟨.brk ((t+1:Nat):Int),?_,fun s' hh=>(by simp at hh),.inr ⟨_,rfl,?_⟩⟩
    ·rw[if_neg (by simp;omega)]
    ·rw[List.take_of_length_le (by omega)] at hI;exact hI) (s:=1) ⟨rfl,EJ 1 (by omega) (fun q h1 h0=>by omega)⟩ (nm _ (by omega))
  rcases hQ with rfl | ⟨s,rfl,h⟩
  ·exact .inl e
  ·exact .inr ⟨s,e,h⟩
 rcases key with e | ⟨s,e,h⟩
 ·rw[bu e]
 ·rw[aj e,h]
def Tu (l:List Pr):List Pr:=nub (R.F8 R.F9 l)
theorem Nn (l:List Pr):(R.F8 R.F9 l).Pairwise (fun a b=> ¬ltP b a):=by
 have hle: ∀a b:Pr,(!(ltOf R.F9 b a))=true↔ ¬ltP b a:=fun a b=>by
  rw[Bool.not_eq_true',R.uP];rfl
 have h:=List.pairwise_mergeSort (le:=fun x y=> !(ltOf R.F9 y x)) (fun a b c h1 h2=>by
  rw[hle] at *
  intro h
  unfold ltP at *
  omega) (fun a b=>by
  rw[Bool.or_eq_true,hle,hle]
  unfold ltP
  omega) l
 exact h.imp fun {a b} h=>(hle a b).1 h
theorem EK (l:List Pr):Str (Tu l):=C7 (Nn l)
theorem EL {l:List Pr} {x:Pr} :x∈Tu l↔x∈l:=by
 unfold Tu
 rw[zS]
 exact List.mem_mergeSort
theorem EM (l:List Pr) (hl:l.length<=268435456):iH l=some (Tu l):=by
 unfold iH cM R.MS
 rw[aI (by simp only[aJ];omega)]
 simp only[aa,List.nil_append]
 rw[C3 (by omega)]
 simp only[aa]
 rw[JX _ (by rw[R.Bq];omega)]
 rfl
theorem wP (l:List Pr):Tu l=puts [] l:=sw (EK l) (mu List.Pairwise.nil) fun x=>by rw[EL,j7];simp
theorem Rf {a b:List Pr} (ha:a.length<=67108864) (hb:b.length<=67108864):fC a b=some (puts [] (a++b)):=by
 unfold fC
 rw[aI (by simp only[aJ];omega)]
 simp only[aa,List.nil_append]
 rw[aI (by omega)]
 simp only[aa]
 rw[EM _ (by rw[aw];omega),wP];rfl
end D
namespace D
open Go.RowKit
abbrev GrT:=(List Int)×(List Yq1)
theorem Tv {R:Type} {f:Int->Option (Out R Int)} (N:Nat) (p:Nat->Prop) [DecidablePred p] (r:R) (hN:N<=9223372036854775807)
  (h: ∀i:Nat,i<N->f (i:Int)=some (if p i then .nxt ((i+1:Nat):Int) else .ret r)) (he:f (N:Int)=some (.brk (N:Int))) :
  (ay f aS 0=some (.brk (N:Int))/\ ∀i,i<N->p i)\/(ay f aS 0=some (.ret r)/\ ¬ ∀i,i<N->p i):=by
 obtain ⟨o,e,hq⟩:=cE (f:=f) (fun i s=>s=(i:Int)/\ ∀j:Nat,j<i->p j) (fun o=>(o= .brk (N:Int)/\ ∀i,i<N->p i)\/(o= .ret r/\ ¬ ∀i,i<N->p i)) N (s:=0) (by
  rintro i s hi ⟨rfl,hp⟩
  by_cases hl:i<N
  ·by_cases c:p i
   ·refine .inl ⟨hl,_,by rw[h i hl,if_pos c],rfl,fun j hj=>?_⟩
    by_cases e:j=i
    ·subst e;exact c
    ·exact hp j (by omega)
   ·exact .inr ⟨_,by rw[h i hl,if_neg c],(fun s' e=>by cases e),.inr ⟨rfl,fun hx=>c (hx i hl)⟩⟩
  ·obtain rfl:i=N:=by omega
   exact .inr ⟨_,he,(fun s' e=>by cases e),.inl ⟨rfl,hp⟩⟩) ⟨rfl,by omega⟩ (fN hN)
 rcases hq with ⟨rfl,hq⟩ | ⟨rfl,hq⟩
 ·exact .inl ⟨e,hq⟩
 ·exact .inr ⟨e,hq⟩
structure GOk (g:GrT):Prop where
 n1:1<=g.1.length
 n5:g.1.length<=5
 m:g.2.length<=12
 val: ∀v∈g.1,0<=v/\v<=2
 edge: ∀e∈g.2,(0<=e.2.1/\e.2.1<g.1.length)/\(0<=e.2.2.1/\e.2.2.1<g.1.length)/\0<=e.2.2.2/\e.2.2.2<=2
 asc: ∀i:Nat,i+1<g.2.length->(nth g.2 i).1<(nth g.2 ((i+1:Nat):Int)).1
def edgeP (e:Int×Int×Int×Int) (n:Int):Prop:=(1<=e.1/\e.1<=99)/\(0<=e.2.1/\e.2.1<=n - 1)/\(0<=e.2.2.1/\e.2.2.1<=n - 1)/\0<=e.2.2.2/\e.2.2.2<=2
instance (e n):Decidable (edgeP e n):=by unfold edgeP;infer_instance
theorem Tw (e:Int×Int×Int×Int) {n:Nat} (hn:n<=1048576):mV e (n:Int)=some (decide (edgeP e n)):=by
 unfold mV edgeP
 simp only[Es,aa,ku (show n<=9223372036854775807 by omega)]
 by_cases c1:1<=e.1/\e.1<=99 <;> by_cases c2:0<=e.2.1/\e.2.1<=(n:Int) - 1 <;> by_cases c3:0<=e.2.2.1/\e.2.2.1<=(n:Int) - 1 <;> simp[c1,c2,c3]
def Wl (g:GrT):Prop:=GOk g/\ ∀e∈g.2,1<=e.1/\e.1<=99
theorem No (g:GrT) (h1:g.1.length<=1048576) (h2:g.2.length<=1048576): ∃b,aZ g=some b/\(b=true↔Wl g):=by
 unfold aZ
 have k0:=Tv (f:=dB g) g.1.length (fun i=>0<=nth g.1 i/\nth g.1 i<=2) false (by omega) (fun i hi=>by
  unfold dB
  rw[if_pos (by simp;omega),aD (by omega) (by omega)];simp only[aa,Es,decide_eq_true_eq]
  split
  ·rw[af (by omega)]
  ·rfl) (by unfold dB;rw[if_neg (by simp)])
 have k1:=Tv (f:=cL g) g.2.length (fun i=>edgeP (nth g.2 i) g.1.length/\(0<i->(nth g.2 ((i:Int) - 1)).1<(nth g.2 i).1)) false (by omega) (fun i hi=>by
  unfold cL
  rw[if_pos (by simp;omega),aD (by omega) (by omega)];simp only[aa]
  have e1:=Tw (nth g.2 (i:Int)) h1
  have e1:mV ((nth g.2 (i:Int)).1,(nth g.2 (i:Int)).2.1,(nth g.2 (i:Int)).2.2.1,(nth g.2 (i:Int)).2.2.2) (g.1.length:Int)=_:=e1
  rw[e1];simp only[aa,decide_eq_true_eq]
  by_cases c1:edgeP (nth g.2 (i:Int)) g.1.length
  ·rw[if_pos c1]
   by_cases c2:0<i
   ·rw[if_pos (by omega),ku (by omega),aD (by omega) (by omega)];simp only[aa]
    by_cases c3:(nth g.2 ((i:Int) - 1)).1<(nth g.2 (i:Int)).1
    ·rw[if_neg (by omega),if_pos ⟨c1,fun _=>c3⟩,af (by omega)]
    ·rw[if_pos (by omega),if_neg (fun h=>c3 (h.2 c2))]
   ·rw[if_neg (by omega),if_pos ⟨c1,fun h=>absurd h c2⟩,af (by omega)]
  ·rw[if_neg c1,if_neg (fun h=>c1 h.1)]) (by unfold cL;rw[if_neg (by simp)])
 rcases k0 with ⟨k0,j0⟩ | ⟨k0,j0⟩
 ·rw[aj k0]
  rcases k1 with ⟨k1,j1⟩ | ⟨k1,j1⟩
  ·rw[aj k1,Es];simp only[aa,decide_eq_true_eq]
   split
   ·rename_i c
    refine ⟨_,rfl,fun hb=>?_,fun G=>decide_eq_true (by have:=G.1.m;omega)⟩
    have hb:=of_decide_eq_true hb
    refine ⟨⟨by omega,by omega,by omega,fun v hv=>?_,fun e he=>?_,fun i hi=>?_⟩,fun e he=>?_⟩
    rotate_left 3
    ·obtain ⟨i,hi,rfl⟩:=zK he
     exact (j1 i hi).1.1
    ·obtain ⟨i,hi,rfl⟩:=zK hv
     exact j0 i hi
    ·obtain ⟨i,hi,rfl⟩:=zK he
     obtain ⟨a1,a2,a3,a4⟩:=(j1 i hi).1
     exact ⟨⟨a2.1,by omega⟩,⟨a3.1,by omega⟩,a4⟩
    ·have:=(j1 (i+1) hi).2 (by omega)
     rwa [show (((i+1:Nat):Int) - 1)=(i:Int) from by omega] at this
   ·rename_i c
    exact ⟨false,rfl,(fun h=>by cases h),fun G=>absurd (by have:=G.1.n1;have:=G.1.n5;omega) c⟩
  ·rw[bu k1]
   refine ⟨false,rfl,(fun h=>by cases h),fun G=>absurd (fun i hi=>?_) j1⟩
   have hm:=dD (xs:=g.2) (i:=(i:Int)) (by omega) (by omega)
   obtain ⟨e1,e2,e3,e4⟩:=G.1.edge _ hm
   refine ⟨⟨G.2 _ hm,⟨e1.1,by omega⟩,⟨e2.1,by omega⟩,e3,e4⟩,fun h0=>?_⟩
   have:=G.1.asc (i - 1) (by omega)
   rwa [show ((i - 1:Nat):Int)=(i:Int) - 1 from by omega,show (((i - 1)+1:Nat):Int)=(i:Int) from by omega] at this
 ·rw[bu k0]
  exact ⟨false,rfl,(fun h=>by cases h),fun G=>absurd (fun i hi=>G.1.val _ (dD (by omega) (by omega))) j0⟩
theorem Np (g:GrT) (h1:g.1.length<=1048576) (h2:g.2.length<=1048576): ∃b,aZ g=some b/\(b=true->GOk g):=by
 obtain ⟨b,h1,h2⟩:=No g h1 h2
 exact ⟨b,h1,fun h=>(h2.1 h).1⟩
end D
namespace D
open Go.RowKit
theorem EN {p:Prop} [Decidable p] (h:p):chk p=some ():=by unfold chk;rw[if_pos h]
section
variable {a:AutT} {n:Nat} (V:VA a n) (hn:n<=12)
include V hn
end
section
variable {a:AutT} {n:Nat} (V:VA a n) (hn:n<=12)
include V hn
end
section
variable {a:AutT} {n:Nat} (V:VA a n) (hn:n<=12)
include V
include hn
end
end D
namespace D
open Go.RowKit
def rm {α:Type} (N:Nat) (F:Nat->α):List α:=(List.range N).map F
section
variable {α:Type} {N:Nat} {F G:Nat->α}
theorem BO:(rm N F).length=N:=by simp[rm]
theorem Nq (h: ∀z,z<N->F z=G z):rm N F=rm N G:=by
 unfold rm
 exact List.map_congr_left fun z hz=>h z (List.mem_range.1 hz)
theorem Da {c:Nat} (h:c<N):aL (rm N F) (c:Int)=some (F c):=by
 rw[aY (by rw[BO];exact h)]
 simp[rm]
theorem ON {c:Nat} {v:α} :(rm N F).set c v=rm N fun z=>if z=c then v else F z:=by
 refine List.ext_getElem (by simp[rm]) fun i h1 h2=>?_
 simp only[rm,List.getElem_set,List.getElem_map,List.getElem_range]
 by_cases e:c=i
 ·subst e;simp
 ·rw[if_neg e,if_neg (fun h=>e h.symm)]
theorem Rg {xs:List α} [Inhabited α] {k:Nat} (h:k<xs.length):xs.take (k+1)=xs.take k++ [nth xs (k:Int)]:=by
 rw[List.take_add_one,bB h];simp[h]
end
theorem Tx {α:Type} {b n:Nat} {z:α} (h:n*b<=140737488355328):mkI b (n:Int) z=some (rm n fun _=>z):=by
 have:rm n (fun _=>z)=List.replicate n z:=by
  unfold rm;exact List.ext_getElem (by simp) fun i h1 h2=>by simp
 rw[this,OF h]
abbrev EdT:=Int×Int×Int×Int
abbrev ArT:=(Int×Bool)×Int×Int
def fwd (e:EdT):ArT:=((e.1,false),2*e.2.2.2,e.2.2.1)
def inv (e:EdT):ArT:=((e.1,true),2*e.2.2.2+1,e.2.1)
def Rh (e:EdT) (x:Int):List ArT:=(if e.2.1=x then [fwd e] else [])++(if e.2.2.1=x then [inv e] else [])
def GV (es:List EdT) (x:Nat):List ArT:=es.flatMap fun e=>Rh e x
theorem Nr (e:EdT) (x:Int):(Rh e x).length<=2:=by
 unfold Rh;rw[aw];split <;> split <;> simp
theorem sy {α β:Type} {f:α->List β} {B:Nat} : ∀ {xs:List α},(∀x∈xs,(f x).length<=B)->(xs.flatMap f).length<=B*xs.length
 | [],_=>by simp
 | x::xs,h=>by
  rw[List.flatMap_cons,aw,aH,Nat.mul_add]
  have:=h x (by simp)
  have:=sy (xs:=xs) fun y hy=>h y (by simp[hy])
  omega
theorem uV (es:List EdT) (x:Nat):(GV es x).length<=2*es.length:=sy fun e _=>Nr e x
theorem JY (e:EdT) (h:0<=e.2.2.2/\e.2.2.2<=2) (b:Bool):pc e b=some (if b then 2*e.2.2.2+1 else 2*e.2.2.2):=by
 unfold pc
 rw[fg (n:=2*e.2.2.2) (by omega) (by omega),fg (by omega) (by omega)]
 cases b <;> rfl
theorem Tz {g:GrT} (G:GOk g):uQ g=some (rm g.1.length (GV g.2)):=by
 unfold uQ
 rw[Tx (by have:=G.n5;omega)];simp only[aa]
 have:=aQ (f:=lJ g) (fun i=>((i:Int),rm g.1.length (GV (g.2.take i)))) g.2.length (fun i hi=>by
  unfold lJ
  simp only
  have hm:=G.m
  obtain ⟨⟨a1,a2⟩,⟨b1,b2⟩,c1⟩:=G.edge _ (dD (xs:=g.2) (i:=(i:Int)) (by omega) (by omega))
  rw[if_pos (by simp;omega),aD (by omega) (by omega)];simp only[aa]
  generalize he:nth g.2 (i:Int)=e at a1 a2 b1 b2 c1
  obtain ⟨id,fr,to,lb⟩:=e
  obtain ⟨p,rfl⟩: ∃p:Nat,fr=(p:Int):=⟨fr.toNat,by simp only at a1;omega⟩
  obtain ⟨q,rfl⟩: ∃q:Nat,to=(q:Int):=⟨to.toNat,by simp only at b1;omega⟩
  simp only at a1 a2 b1 b2 c1
  have hp:p<g.1.length:=by omega
  have hq:q<g.1.length:=by omega
  have r1:=JY (id,(p:Int),(q:Int),lb) c1 false
  have r2:=JY (id,(p:Int),(q:Int),lb) c1 true
  have l1:=uV (g.2.take i) p
  have l2:=uV (g.2.take i) q
  have l3:(g.2.take i).length<=12:=by rw[aA];omega
  simp only[Da hp,Da hq,aa,r1,r2,Int.toNat_natCast,ON,Bool.false_eq_true,if_false,if_true]
  rw[aI (by simp;omega)];simp only[aa,ON]
  rw[EN (by rw[BO];omega),EN trivial];simp only[aa]
  rw[aI (by split <;> simp <;> omega)];simp only[aa]
  rw[EN (by rw[BO];omega)];simp only[aa]
  try rw[EN rfl];simp only[aa]
  rw[af (by omega)]
  congr 3
  refine Nq fun z hz=>?_
  rw[Rg hi,he]
  unfold GV
  rw[List.flatMap_append]
  simp only[List.flatMap_cons,List.flatMap_nil,List.append_nil,Rh]
  by_cases e1:z=q
  ·subst e1
   by_cases e2:z=p
   ·subst e2;simp[fwd,inv]
   ·simp[e2,fwd,inv,show¬((p:Int)=(z:Int)) from by omega]
  ·by_cases e2:z=p
   ·subst e2;simp[e1,fwd,inv,show¬((q:Int)=(z:Int)) from by omega]
   ·simp[e1,e2,show¬((p:Int)=(z:Int)) from by omega,show¬((q:Int)=(z:Int)) from by omega]) (by unfold lJ;simp) (fN (by have:=G.m;omega))
 have this:ay (lJ g) aS (0,rm g.1.length fun _=>[])=_:=this
 rw[this,List.take_length];rfl
end D
namespace D
open Go.RowKit
structure InR (l:List Pr):Prop where
 str:Str l
 rng: ∀p∈l,(0<=p.1/\p.1<5)/\0<=p.2/\p.2<5
theorem Str.nd {l:List Pr} (h:Str l):l.Nodup:=List.Pairwise.imp (fun {a b} (h:ltP a b) (e:a=b)=>C4 a (e ▸ h)) h
def sq5:List Pr:=(List.range 5).flatMap fun i:Nat=>(List.range 5).map fun j:Nat=>((i:Int),(j:Int))
theorem InR.len {l:List Pr} (h:InR l):l.length<=25:=by
 have:=h.str.nd.length_le_of_subset (l₂:=sq5) (fun p hp=>by
  obtain ⟨⟨h1,h2⟩,h3,h4⟩:=h.rng p hp
  unfold sq5
  rw[List.mem_flatMap]
  refine ⟨p.1.toNat,List.mem_range.2 (by omega),List.mem_map.2 ⟨p.2.toNat,List.mem_range.2 (by omega),?_⟩⟩
  have e1:((p.1.toNat:Nat):Int)=p.1:=by omega
  have e2:((p.2.toNat:Nat):Int)=p.2:=by omega
  rw[e1,e2])
 exact this
theorem InR.nil:InR []:=⟨List.Pairwise.nil,fun p hp=>by cases hp⟩
theorem InR.puts {l:List Pr} (h: ∀p∈l,(0<=p.1/\p.1<5)/\0<=p.2/\p.2<5):InR (puts [] l):=⟨mu List.Pairwise.nil,fun p hp=>by
 rcases j7.1 hp with hp | hp
 ·cases hp
 ·exact h p hp⟩
theorem InR.ext {a b:List Pr} (ha:InR a) (hb:InR b) (h: ∀x,x∈a↔x∈b):a=b:=sw ha.str hb.str h
theorem JZ {l:List Pr} (h:Str l):puts [] l=l:=sw (mu List.Pairwise.nil) h fun x=>by rw[j7];simp
def GW (a b:List Pr):List Pr:=a.flatMap fun p=>(b.filter fun q=>p.2==q.1).map fun q=>(p.1,q.2)
theorem EO {a b:List Pr} {x:Pr} :x∈GW a b↔ ∃z,(x.1,z)∈a/\(z,x.2)∈b:=by
 unfold GW
 rw[List.mem_flatMap]
 constructor
 ·rintro ⟨p,hp,h⟩
  obtain ⟨q,hq,rfl⟩:=List.mem_map.1 h
  obtain ⟨hq,e⟩:=List.mem_filter.1 hq
  have e:=eq_of_beq e
  refine ⟨p.2,hp,?_⟩
  rw[e];exact hq
 ·rintro ⟨z,h1,h2⟩
  exact ⟨_,h1,List.mem_map.2 ⟨_,List.mem_filter.2 ⟨h2,by simp⟩,rfl⟩⟩
theorem Db (b:List Pr) (p:Pr):((b.filter fun q=>p.2==q.1).map fun q=>(p.1,q.2)).length<=b.length:=by
 rw[List.length_map];exact List.length_filter_le ..
theorem EP (a b:List Pr):(GW a b).length<=a.length*b.length:=by
 unfold GW
 induction a with
 | nil=>simp
 | cons p a ih =>
  rw[List.flatMap_cons,aw,aH,Nat.add_mul]
  have:=Db b p
  omega
def RS (a b:List Pr):List Pr:=puts [] (GW a b)
theorem tz {a b:List Pr} (ha:InR a) (hb:InR b):InR (RS a b):=InR.puts fun p hp=>by
 obtain ⟨z,h1,h2⟩:=EO.1 hp
 exact ⟨(ha.rng _ h1).1,(hb.rng _ h2).2⟩
theorem Ns {a b:List Pr} {x:Pr} :x∈RS a b↔ ∃z,(x.1,z)∈a/\(z,x.2)∈b:=by
 unfold RS
 rw[j7,EO];simp
def Uy (a b:List Pr):List Pr:=puts [] (a++b)
theorem Dc {a b:List Pr} (ha:InR a) (hb:InR b):InR (Uy a b):=InR.puts fun p hp=>by
 rcases aC hp with hp | hp
 ·exact ha.rng p hp
 ·exact hb.rng p hp
theorem Nt {a b:List Pr} {x:Pr} :x∈Uy a b↔x∈a\/x∈b:=by
 unfold Uy
 rw[j7,List.mem_append];simp
theorem GG {α:Type} (p:α->Bool) (x:α): [x].filter p=if p x=true then [x] else []:=by rw[List.filter_cons];rfl
theorem Nu {a b:List Pr} (hb:b.length<=1000) {i:Nat} (hi:i<a.length) {o:List Pr} (ho:o.length<=1000000) {x:List Pr} :ay (b7 a b (x,(i:Int))) aS (o,0)=some (.brk (puts o ((b.filter fun q=>a[i].2==q.1).map fun q=>(a[i].1,q.2)),(b.length:Int))):=by
 have key: ∀k,(puts o (((b.take k).filter fun q=>a[i].2==q.1).map fun q=>(a[i].1,q.2))).length<=1001000:=fun k=>by
  have h1:=mw (((b.take k).filter fun q=>a[i].2==q.1).map fun q=>(a[i].1,q.2)) o
  have h2:=Db (b.take k) a[i]
  have h3:(b.take k).length<=b.length:=by rw[aA];omega
  omega
 have:=aQ (f:=b7 a b (x,(i:Int))) (fun k=>(puts o (((b.take k).filter fun q=>a[i].2==q.1).map fun q=>(a[i].1,q.2)),(k:Int))) b.length (fun k hk=>by
  have hk2:=key k
  unfold b7
  simp only
  rw[eR hk,if_pos rfl,aY hi,aY hk];simp only[aa,af (show k<9223372036854775807 by omega)]
  rw[C8 _ _ (by omega),List.take_succ_eq_append_getElem hk,List.filter_append,aM];simp only[aa]
  by_cases c:(a[i].2==b[k].1)=true
  ·rw[GG,if_pos c,if_pos c,List.map_cons,List.map_nil,sx];rfl
  ·rw[GG,if_neg c,if_neg c,List.map_nil,List.append_nil];rfl) (by
  unfold b7
  simp only
  rw[eU];rfl) (fN (by omega))
 rw[List.take_of_length_le (aF _)] at this
 exact this
theorem ER (l m k:List Pr):puts l (m++k)=puts (puts l m) k:=by unfold puts;rw[List.foldl_append]
theorem Ri {a b:List Pr} (ha:a.length<=1000) (hb:b.length<=1000):cx a b=some (RS a b):=by
 have key: ∀k,(puts [] (GW (a.take k) b)).length<=1000000:=fun k=>by
  have h1:=mw (GW (a.take k) b) []
  have h2:=EP (a.take k) b
  have h3:(a.take k).length*b.length<=1000*1000:=Nat.mul_le_mul (by rw[aA];omega) hb
  simp only[aJ] at h1
  omega
 unfold cx
 have:=aQ (f:=b8 a b) (fun k=>(puts [] (GW (a.take k) b),(k:Int))) a.length (fun k hk=>by
  unfold b8
  simp only
  rw[eR hk,if_pos rfl,aj (Nu hb hk (key k)),af (by omega),List.take_succ_eq_append_getElem hk]
  unfold GW
  rw[List.flatMap_append,ER];simp) (by
  unfold b8
  simp only
  rw[eU];rfl) (fN (by omega))
 have this:ay (b8 a b) aS (([] :List (Int×Int)),0)=_:=this
 rw[aj this,List.take_of_length_le (aF _)];rfl
theorem Nv {b:List Pr} (hb:b.length<=1000) (p:Pr) {o:List Pr} (ho:o.length<=1000000):ay (cj b p) aS (o,0)=some (.brk (o++((b.filter fun q=>p.2==q.1).map fun q=>(p.1,q.2)),(b.length:Int))):=by
 have:=aQ (f:=cj b p) (fun k=>(o++(((b.take k).filter fun q=>p.2==q.1).map fun q=>(p.1,q.2)),(k:Int))) b.length (fun k hk=>by
  have h2:=Db (b.take k) p
  have h3:(b.take k).length<=b.length:=by rw[aA];omega
  unfold cj
  simp only
  rw[eR hk,if_pos rfl,aY hk];simp only[aa,af (show k<9223372036854775807 by omega)]
  rw[aI (by rw[aw];simp only[aH,aJ];omega),List.take_succ_eq_append_getElem hk,List.filter_append,aM];simp only[aa]
  by_cases c:(p.2==b[k].1)=true
  ·rw[GG,if_pos c,if_pos c,List.map_cons,List.map_nil,aB];rfl
  ·rw[GG,if_neg c,if_neg c,List.map_nil,List.append_nil];rfl) (by
  unfold cj
  simp only
  rw[eU];rfl) (fN (by omega))
 rw[List.take_of_length_le (aF _)] at this
 simpa using this
theorem Rj {a b:List Pr} (hs:Str a) (ha:a.length<=1000) (hb:b.length<=1000):cz a b=some (RS a b):=by
 have key: ∀k,(GW (a.take k) b).length<=1000000:=fun k=>by
  have h2:=EP (a.take k) b
  have h3:(a.take k).length*b.length<=1000*1000:=Nat.mul_le_mul (by rw[aA];omega) hb
  omega
 unfold cz
 rw[EM a (by omega),wP,JZ hs];simp only[aa]
 have:=aQ (f:=cm b a) (fun k=>(GW (a.take k) b,(k:Int))) a.length (fun k hk=>by
  unfold cm
  simp only
  rw[eR hk,if_pos rfl,aY hk];simp only[aa]
  rw[aj (Nv hb a[k] (key k)),af (by omega),List.take_succ_eq_append_getElem hk]
  unfold GW
  rw[List.flatMap_append];simp) (by
  unfold cm
  simp only
  rw[eU];rfl) (fN (by omega))
 have this:ay (cm b a) aS (([] :List (Int×Int)),0)=_:=this
 have h2:=key a.length
 rw[List.take_of_length_le (aF _)] at this h2
 rw[aj this];simp only
 rw[EM _ (by omega),wP];rfl
def idR (n:Nat):List Pr:=(List.range n).map fun i:Nat=>((i:Int),(i:Int))
theorem zU (n:Nat):idR (n+1)=idR n++ [((n:Int),(n:Int))]:=by unfold idR;rw[List.range_succ,aM];rfl
theorem J4 (n:Nat):(idR n).length=n:=by simp[idR]
theorem zV {n:Nat} {x:Pr} :x∈idR n↔x.1=x.2/\0<=x.1/\x.1<n:=by
 unfold idR
 rw[List.mem_map]
 constructor
 ·rintro ⟨i,hi,rfl⟩
  have:=List.mem_range.1 hi
  exact ⟨rfl,by show (0:Int)<=(i:Int);omega,by show (i:Int)<n;omega⟩
 ·rintro ⟨h1,h2,h3⟩
  refine ⟨x.1.toNat,List.mem_range.2 (by omega),?_⟩
  have:((x.1.toNat:Nat):Int)=x.1:=by omega
  rw[this];exact Prod.ext rfl h1
theorem J5: ∀n,Str (idR n)
 | 0=>List.Pairwise.nil
 | n+1=>by
  rw[zU]
  refine List.pairwise_append.2 ⟨J5 n,List.pairwise_singleton _ _,fun a ha b hb=>?_⟩
  obtain rfl:=ak hb
  exact .inl (zV.1 ha).2.2
theorem ES {n:Nat} (hn:n<=5):InR (idR n):=⟨J5 n,fun p hp=>by
 obtain ⟨h1,h2,h3⟩:=zV.1 hp
 omega⟩
theorem Vs {n:Nat} (hn:n<=5):cw (n:Int)=some (idR n):=by
 unfold cw
 have:=aQ (f:=bZ (n:Int)) (fun k=>(idR k,(k:Int))) n (fun k hk=>by
  have:=J4 k
  unfold bZ
  simp only
  rw[if_pos (by simp;omega),if_pos (by simp;omega),aI (by simp;omega),af (by omega),zU];rfl) (by
  unfold bZ
  simp only
  rw[if_neg (by simp)]) (fN (by omega))
 have this:ay (bZ (n:Int)) aS (([] :List (Int×Int)),0)=_:=this
 rw[aj this]
theorem Vt {n:Nat} (hn:n<=5):cy (n:Int)=some (idR n):=by
 unfold cy
 rw[if_neg (by simp;omega)]
 have:=aQ (f:=cg (n:Int)) (fun k=>(idR k,(k:Int))) n (fun k hk=>by
  have:=J4 k
  unfold cg
  simp only
  rw[if_pos (by simp;omega),aI (by simp;omega),af (by omega),zU];rfl) (by
  unfold cg
  simp only
  rw[if_neg (by simp)]) (fN (by omega))
 have this:ay (cg (n:Int)) aS (([] :List (Int×Int)),0)=_:=this
 rw[aj this]
def lZ (n:Nat) (l:List Pr):Nat->List Pr
 | 0=>idR n
 | k+1=>Uy (lZ n l k) (RS (lZ n l k) l)
section
variable {n:Nat} {l:List Pr} (hn:n<=5) (hl:InR l)
include hn hl
theorem jt: ∀k,InR (lZ n l k)
 | 0=>ES hn
 | k+1=>Dc (jt k) (tz (jt k) hl)
omit hn hl in
theorem oe {k:Nat} {x:Pr} :x∈lZ n l (k+1)↔x∈lZ n l k\/ ∃z,(x.1,z)∈lZ n l k/\(z,x.2)∈l:=by rw[lZ,Nt,Ns]
omit hn hl in
theorem tC: ∀k (x:Pr),x∈lZ n l k->0<=x.1/\x.1<n
 | 0,x,h=>by
  obtain ⟨-,h1,h2⟩:=zV.1 h
  exact ⟨h1,h2⟩
 | k+1,x,h=>by
  rcases oe.1 h with h | ⟨z,h,-⟩
  ·exact tC k x h
  ·exact tC k (x.1,z) h
omit hn hl in
theorem Rk {x:Int} {k:Nat} (h: ∀y,(x,y)∈lZ n l (k+1)->(x,y)∈lZ n l k): ∀y,(x,y)∈lZ n l (k+1+1)->(x,y)∈lZ n l (k+1):=fun y hy=>by
 rcases oe.1 hy with hy | ⟨z,h1,h2⟩
 ·exact hy
 ·exact oe.2 (.inr ⟨z,h z h1,h2⟩)
def ET (n:Nat) (l:List Pr) (x:Int) (k:Nat):List Nat:=(List.range 5).filter fun y:Nat=>decide ((x,(y:Int))∈lZ n l k)
theorem BP (x:Int) (k:Nat):(∀y,(x,y)∈lZ n l (k+1)->(x,y)∈lZ n l k)\/(ET n l x k).length<(ET n l x (k+1)).length:=by
 have hsub:(ET n l x k).Sublist (ET n l x (k+1)):=by
  have:ET n l x k=(ET n l x (k+1)).filter fun y:Nat=>decide ((x,(y:Int))∈lZ n l k):=by
   unfold ET
   rw[List.filter_filter]
   refine List.filter_congr fun y _=>?_
   by_cases c:(x,(y:Int))∈lZ n l k
   ·rw[decide_eq_true c,decide_eq_true (oe.2 (.inl c))];rfl
   ·rw[decide_eq_false c];rfl
  rw[this];exact List.filter_sublist
 by_cases e:(ET n l x k).length=(ET n l x (k+1)).length
 ·left
  have heq:=hsub.eq_of_length e
  intro y hy
  have hr:=((jt hn hl (k+1)).rng _ hy).2
  have hm:y.toNat∈ET n l x (k+1):=List.mem_filter.2 ⟨List.mem_range.2 (by omega),decide_eq_true (by
   rw[show ((y.toNat:Nat):Int)=y by omega];exact hy)⟩
  rw[<-heq] at hm
  have:=of_decide_eq_true (List.mem_filter.1 hm).2
  rwa [show ((y.toNat:Nat):Int)=y by omega] at this
 ·right
  have:=hsub.length_le
  omega
theorem Nw:lZ n l 5=lZ n l 4:=by
 refine (jt hn hl 5).ext (jt hn hl 4) fun p=>⟨fun hp=>?_,fun hp=>oe.2 (.inl hp)⟩
 have hx:=tC 5 p hp
 have key: ∀k,(∀y,(p.1,y)∈lZ n l (k+1)->(p.1,y)∈lZ n l k)\/k+2<=(ET n l p.1 (k+1)).length:=fun k=>by
  induction k with
  | zero =>
   rcases BP hn hl p.1 0 with h | h
   ·exact .inl h
   ·right
    have:p.1.toNat∈ET n l p.1 0:=List.mem_filter.2 ⟨List.mem_range.2 (by omega),decide_eq_true (by
     rw[show ((p.1.toNat:Nat):Int)=p.1 by omega];exact zV.2 ⟨rfl,hx⟩)⟩
    have:=List.length_pos_of_mem this
    omega
  | succ k ih =>
   rcases ih with h | h
   ·exact .inl (Rk h)
   ·rcases BP hn hl p.1 (k+1) with h2 | h2
    ·exact .inl h2
    ·exact .inr (by omega)
 rcases key 4 with h | h
 ·exact h p.2 hp
 ·have:(ET n l p.1 5).length<=(List.range 5).length:=List.length_filter_le ..
  simp only[List.length_range] at this
  have h:6<=(ET n l p.1 5).length:=h
  omega
omit hn hl in
theorem EU {i:Nat} (h:lZ n l (i+1)=lZ n l i): ∀d,lZ n l (i+d)=lZ n l i
 | 0=>rfl
 | d+1=>by
  have ih:=EU h d
  rw[show i+(d+1)=(i+d)+1 from rfl,lZ,ih]
  exact h
theorem Nx {i:Nat} (h:(lZ n l (i+1)).length=(lZ n l i).length):lZ n l (i+1)=lZ n l i:=by
 refine (jt hn hl (i+1)).ext (jt hn hl i) fun p=>⟨fun hp=>?_,fun hp=>oe.2 (.inl hp)⟩
 apply Classical.byContradiction
 intro hc
 have hnd:(p::lZ n l i).Nodup:=List.nodup_cons.2 ⟨hc,(jt hn hl i).str.nd⟩
 have:=hnd.length_le_of_subset (l₂:=lZ n l (i+1)) (fun q hq=>by
  rcases ax hq with rfl | hq
  ·exact hp
  ·exact oe.2 (.inl hq))
 simp only[aH] at this
 omega
theorem Rl:ay (cG l) aS (idR n,0)=some (.brk (lZ n l 5,5)):=
 aQ (f:=cG l) (fun k=>(lZ n l k,(k:Int))) 5 (fun k hk=>by
  have h1:=(jt hn hl k).len
  have h2:=hl.len
  have h3:=(tz (jt hn hl k) hl).len
  unfold cG
  simp only
  rw[if_pos (by simp;omega),Ri (by omega) (by omega)];simp only[aa]
  rw[C9 (by omega) (by omega),af (by omega)];rfl) (by
  unfold cG
  simp) (by unfold aS;omega)
theorem Rm:ay (dG l) aS (idR n)=some (.ret (lZ n l 5)):=by
 obtain ⟨o,e,hQ⟩:=cE (f:=dG l) (fun i s=>s=lZ n l i) (fun o=>o= .ret (lZ n l 5)) 4 (s:=idR n) (by
  rintro i s hi rfl
  have h1:=(jt hn hl i).len
  have h2:=hl.len
  have h3:=(tz (jt hn hl i) hl).len
  unfold dG
  rw[Rj (jt hn hl i).str (by omega) (by omega)];simp only[aa]
  rw[Rf (by omega) (by omega)];simp only[aa]
  by_cases c:(lZ n l (i+1)).length=(lZ n l i).length
  ·right
   have e:=Nx hn hl c
   refine ⟨.ret (lZ n l i),if_pos (by
    show (((lZ n l (i+1)).length:Int)==((lZ n l i).length:Int))=true
    rw[c];simp),fun s' h=>(by cases h),?_⟩
   have h4:=EU e (5 - i)
   rw[show i+(5 - i)=5 by omega] at h4
   rw[h4]
  ·left
   have hi4:i<4:=by
    apply Classical.byContradiction
    intro h
    obtain rfl:i=4:=by omega
    exact c (by rw[Nw hn hl])
   exact ⟨hi4,lZ n l (i+1),if_neg (by
    show¬(((lZ n l (i+1)).length:Int)==((lZ n l i).length:Int))=true
    simp;omega),rfl⟩) rfl (by unfold aS;omega)
 rw[e,hQ]
theorem Ny (h0:1<=n): ∃r,e7 (n:Int) l=some r/\fa (n:Int) l=some r/\InR r:=by
 have hlen:=hl.len
 obtain ⟨b,eb⟩:=JW l (by omega)
 have es:fV l=some b:=EH.trans eb
 unfold e7 fa
 rw[KJ,Es];simp only[aa]
 rw[if_pos (by simp;omega),if_pos (by simp;omega),es,eb];simp only[aa]
 cases b with
 | false=>exact ⟨[],rfl,rfl,InR.nil⟩
 | true =>
  simp only[if_true]
  rw[Vs hn,Vt hn];simp only[aa]
  rw[aj (Rl hn hl),bu (Rm hn hl)]
  exact ⟨_,rfl,rfl,jt hn hl 5⟩
theorem Nz (h0:1<=n) (low:Int) {high:Int} (hh:0<=high/\high<=3): ∃r,gE (n:Int) l low high=some r/\gJ (n:Int) l low high=some r/\InR r:=by
 have hlen:=hl.len
 obtain ⟨b,eb⟩:=JW l (by omega)
 have es:fV l=some b:=EH.trans eb
 unfold gE gJ
 have hnn:decide (1<=(n:Int)/\(n:Int)<=5)=true:=decide_eq_true ⟨by omega,by omega⟩
 have hh':decide (0<=high/\high<=3)=true:=decide_eq_true hh
 simp only[KJ,Es,aa,hnn,if_true,es,eb,hh']
 cases b with
 | false=>exact ⟨[],rfl,rfl,InR.nil⟩
 | true =>
  simp only[if_true]
  by_cases c:low<0
  ·simp only[decide_eq_true c,if_true];exact ⟨[],rfl,rfl,InR.nil⟩
  simp only[decide_eq_false c,Bool.false_eq_true,if_false]
  rw[Vs hn,Vt hn];simp only[aa]
  have step: ∀(i:Nat) (s:List Pr×List Pr×Int),(InR s.1/\InR s.2.1/\s.2.2=(i:Int))->i<high.toNat+1-> ∃s',bJ l low high s=some (.nxt s')/\cA l low high s=some (.nxt s')/\InR s'.1/\InR s'.2.1/\s'.2.2=((i+1:Nat):Int):=by
   rintro i ⟨o,x,k⟩ ⟨h1,h2,h3⟩ hi
   have h3:k=(i:Int):=h3
   subst h3
   have h1:InR o:=h1
   have h2:InR x:=h2
   have l1:o.length<=25:=h1.len
   have l2:x.length<=25:=h2.len
   have hle:decide ((i:Int)<=high)=true:=decide_eq_true (by omega)
   unfold bJ cA
   simp only[hle,if_true]
   rw[Ri (a:=x) (by omega) (by omega),Rj (a:=x) h2.str (by omega) (by omega),af (show i<9223372036854775807 by omega)]
   rw[C9 (a:=o) (b:=x) (by omega) (by omega),Rf (a:=o) (b:=x) (by omega) (by omega)]
   by_cases d:(i:Int)≥low
   ·simp only[decide_eq_true d,if_true,aa]
    exact ⟨_,rfl,rfl,Dc h1 h2,tz h2 hl,rfl⟩
   ·simp only[decide_eq_false d,Bool.false_eq_true,if_false,aa]
    exact ⟨_,rfl,rfl,h1,tz h2 hl,rfl⟩
  have stop: ∀s:List Pr×List Pr×Int,s.2.2=((high.toNat+1:Nat):Int)->bJ l low high s=some (.brk s)/\cA l low high s=some (.brk s):=by
   rintro ⟨o,x,k⟩ h3
   have h3:k=((high.toNat+1:Nat):Int):=h3
   subst h3
   have hle:decide (((high.toNat+1:Nat):Int)<=high)=false:=decide_eq_false (by omega)
   unfold bJ cA
   simp only[hle,Bool.false_eq_true,if_false,and_self]
  have both: ∀f (i:Nat) (s:List Pr×List Pr×Int),(InR s.1/\InR s.2.1/\s.2.2=(i:Int))->i<=high.toNat+1->ay (cA l low high) f s=ay (bJ l low high) f s:=by
   intro f
   induction f with
   | zero=>intro i s _ _;rfl
   | succ f ih =>
    intro i s hs hi
    rw[ay,ay]
    by_cases d:i<high.toNat+1
    ·obtain ⟨s',e1,e2,h1⟩:=step i s hs d
     rw[e1,e2]
     exact ih (i+1) s' h1 (by omega)
    ·obtain rfl:i=high.toNat+1:=by omega
     obtain ⟨e1,e2⟩:=stop s hs.2.2
     rw[e1,e2]
  obtain ⟨s',e,h1,-,-⟩:=be (f:=bJ l low high) (fun i s=>InR s.1/\InR s.2.1/\s.2.2=(i:Int)) (high.toNat+1) (fun i s hi hI=>by
   obtain ⟨s',e1,-,h1⟩:=step i s hI hi
   exact ⟨s',e1,h1⟩) (fun s hI=>(stop s hI.2.2).1) (s:=(([] :List Pr),idR n,0)) ⟨InR.nil,ES hn,rfl⟩ (fN (by omega))
  rw[both aS 0 (([] :List Pr),idR n,0) ⟨InR.nil,ES hn,rfl⟩ (by omega),aj e]
  exact ⟨_,rfl,rfl,h1⟩
end
end D
end Go.Proofs.YtfbgafccgaoepaaGreat
