/- FnMessages: for every input the law returns true and changes nothing that was there. Part 7 of 9. -/
import Derived.Test.YtncnbjfngmhfaaaGreatDoorAC5
set_option synthInstance.maxSize 20000
set_option synthInstance.maxHeartbeats 2000000
set_option linter.unusedVariables false
set_option linter.unusedSimpArgs false
set_option linter.unnecessarySimpa false
set_option linter.unusedSectionVars false
set_option maxRecDepth 1000000
namespace Go.Proofs.YtncnbjfngmhfaaaGreatDoor
open Go.IntKind (i64)
namespace R
open Go.RowKit
open D
theorem EZ:FOk Tryz.prog 70 wY:=fk [(107,Bh),(108,rR)] ⟨IS,zF,trivial⟩ Tryz.func70 .no
theorem gu:FOk Tryz.prog 133 dG:=fk [] trivial Tryz.func133 (.t (.two (.t (.loop [.s 8] .no)) .no))
theorem ma:FOk Tryz.prog 97 gf:=fk [(133,dG)] ⟨gu,trivial⟩ Tryz.func97 (.t (.t (.t (.two (.t (.loop [.s 5,.s 6,.row 0 81 y81] (.t (.two (.at [.s 5,.row 0 81 y81] .no) .no)))) .no)))) (an:=[(38,.raw),(41,.raw)])
theorem BH:FOk Tryz.prog 100 te:=fk [] trivial Tryz.func100 .no
theorem sd:FOk Tryz.prog 66 nP:=fk [(100,te)] ⟨BH,trivial⟩ Tryz.func66 .no
theorem mi (a b:Int) (W:World):Calls Tryz.prog 100 #[.int .i64 a,.int .i64 b] W fun e c=>e= .returned (.int .i64 (cmpI a b))/\c=W:=by
 unfold cmpI;by_cases h:a<b
 ·go_enter Tryz.func100,Tryz.ntmps100
  go_wp2
  go_ret
  simp[h]
 ·by_cases k:b<a
  ·go_enter Tryz.func100,Tryz.ntmps100
   go_wp2
   go_ret
   simp[h,k]
  ·go_enter Tryz.func100,Tryz.ntmps100
   go_wp2
   go_ret
   simp[h,k]
theorem mj (x y:Int×Int) (W:World):Calls Tryz.prog 66 #[.agg #[.int .i64 x.1,.int .i64 x.2],.agg #[.int .i64 y.1,.int .i64 y.2]] W fun e b=>e= .returned (.int .i64 (L6 x y))/\ ∃q os',b=Go.Sort.grow (W.drewN q) os':=by
 unfold L6;have a:=mi;generalize cmpI=c at a⊢;by_cases h:x.1=y.1
 ·rw[if_pos h]
  go_enter Tryz.func66,Tryz.ntmps66
  go_wp2_with (go_at_call 100;refine (a _ _ _).mono ?_;rintro e b ⟨rfl,rfl⟩)
  go_ret
  exact ⟨rfl,0,_,by rw[Go.Sort.alloc_eq_grow,Go.Sort.alloc_eq_grow,Go.Sort.grow_grow];rfl⟩
 ·rw[if_neg h]
  go_enter Tryz.func66,Tryz.ntmps66
  go_wp2_with (go_at_call 100;refine (a _ _ _).mono ?_;rintro e b ⟨rfl,rfl⟩)
  go_ret
  exact ⟨rfl,0,_,by rw[Go.Sort.alloc_eq_grow,Go.Sort.alloc_eq_grow,Go.Sort.grow_grow];rfl⟩
theorem mO:FOk Tryz.prog 135 gW:=O8 CB (by intro w;kernel_rfl) (by intro w;kernel_rfl) SG SH (enters_of Tryz.func66 (by kernel_rfl) rfl) (fun _ _ _ _ _ _ _ _ x y=>mj x y _) (enters_of Tryz.func135 (by kernel_rfl) rfl) 81
theorem nE:FOk Tryz.prog 136 ic:=fk [] trivial Tryz.func136 (.t (.t (.two (.t (.loop [.s 3] (.t (.two (.t (.two (.t (.two (.t (.loop [.s 3,.s 5,.row 0 81 y81] (.t (.two (.at [.s 3,.row 0 81 y81] .no) .no)))) .no)) .no)) .no)))) .no))) (an:=[(28,.raw),(56,.raw),(59,.raw)])
theorem BJ:FOk Tryz.prog 98 vE:=fk [(66,nP),(135,gW),(136,ic)] ⟨sd,mO,nE,trivial⟩ Tryz.func98 .no
theorem ox:FOk Tryz.prog 134 iW:=fk [] trivial Tryz.func134 (.t (.two (.t (.loop [.s 8] .no)) .no))
theorem gX:FOk Tryz.prog 96 dU:=fk [(134,iW)] ⟨ox,trivial⟩ Tryz.func96 .no
theorem vR:FOk Tryz.prog 99 pq:=fk [(96,dU)] ⟨gX,trivial⟩ Tryz.func99 .no
theorem qX:FOk Tryz.prog 63 mL:=fk [(97,gf),(98,vE),(99,pq)] ⟨ma,BJ,vR,trivial⟩ Tryz.func63 .no
theorem zG:FOk Tryz.prog 71 rS:=fk [(63,mL)] ⟨qX,trivial⟩ Tryz.func71 .no
theorem BK:FOk Tryz.prog 36 vF:=fk [(70,wY),(71,rS)] ⟨EZ,zG,trivial⟩ Tryz.func36 (.t (.t (.t (.two (.t (.at [.box 13 [(.num .i64),.boo,(.own 81 y81),(.own 81 y81)],.gone 11] .no)) .no))))
theorem BL:FOk Tryz.prog 19 tf:=fk [(35,vC),(36,vF)] ⟨BE,BK,trivial⟩ Tryz.func19 .no
theorem yq:FOk Tryz.prog 6 qM:=fk [(19,tf)] ⟨BL,trivial⟩ Tryz.func6 (.t (.t (.loop [.slot 8 (.own 51 y51),.box 5 [(.num .i64),(.num .i64),(.num .i64)]] .no)))
theorem IU:FOk Tryz.prog 47 Bi:=fk [(16,dS),(21,dB),(50,oi),(51,iz)] ⟨fm,eL,rG,kV,trivial⟩ Tryz.func47 .no
theorem BM:FOk Tryz.prog 8 vG:=fk [(16,dS),(21,dB),(22,kJ),(23,jV)] ⟨fm,eL,l6,ln,trivial⟩ Tryz.func8 .no
theorem xe:FOk Tryz.prog 24 pU:=fk [(50,oi),(51,iz),(52,vA)] ⟨rG,kV,Bx,trivial⟩ Tryz.func24 .no
theorem IV:FOk Tryz.prog 125 Bj:=fk [(22,kJ)] ⟨l6,trivial⟩ Tryz.func125 (.t (.t (.t (.two (.t (.loop [.s 4] (.t (.two (.t (.t (.loop [.s 5] .no))) .no)))) .no))))
theorem uy:FOk Tryz.prog 85 nZ:=fk [(125,Bj)] ⟨IV,trivial⟩ Tryz.func85 .no
theorem IW:FOk Tryz.prog 54 Bk:=fk [(22,kJ),(25,eR),(85,nZ)] ⟨l6,fR,uy,trivial⟩ Tryz.func54 .no
theorem uX:FOk Tryz.prog 127 qk:=fk [] trivial Tryz.func127 (.t (.t (.two (.loop [.s 1,.s 7] .no) .no)))
theorem Ml:FOk Tryz.prog 163 DF:=fk [] trivial Tryz.func163 (.t (.t (.two (.t (.loop [.slot 5 (.own 162 WX),.s 6] (.t (.join [.slot 5 (.own 162 WX)] (.join [.slot 5 (.own 162 WX)] .no .no) .no)))) .no)))
theorem E3:FOk Tryz.prog 164 wZ:=fk [] trivial Tryz.func164 .no
theorem Pp:FOk Tryz.prog 165 G8:=fk [] trivial Tryz.func165 .no
theorem Hf:FOk Tryz.prog 126 zf:=fk [(127,qk),(150,lY),(163,DF),(164,wZ),(165,G8)] ⟨uX,oo,Ml,E3,Pp,trivial⟩ Tryz.func126 (.t (.t (.t (.t (.two (.t (.loop [.slot 9 (.own 164 Y4),.s 12] (.t (.two (.t (.t (.two (.t (.loop [.s 14,.s 15] (.t (.join [.s 14] .no .no)))) (.t (.loop [.slot 9 (.own 164 Y4),.s 17] (.t (.join [.slot 9 (.own 164 Y4)] .no .no))))))) .no)))) .no)))))
theorem Hg:FOk Tryz.prog 86 zg:=fk [(126,zf)] ⟨Hf,trivial⟩ Tryz.func86 (.t (.t (.t (.two (.t (.loop [.slot 8 (.own 3 y3),.s 9] .no)) (.t (.t (.two (.t (.loop [.row 8 3 y3,.slot 10 (.own 3 y3),.s 11] (.t (.two (.t (.t (.loop [.row 8 3 y3,.slot 10 (.own 3 y3),.s 13] (.t (.join [.row 8 3 y3,.slot 10 (.own 3 y3)] .no .no))))) .no)))) .no)))))))
theorem CQ:FOk Tryz.prog 87 uO:=fk [(127,qk)] ⟨uX,trivial⟩ Tryz.func87 (.t (.t (.two (.t (.loop [.s 10] .no)) .no)))
theorem Pq:FOk Tryz.prog 88 G9:=fk [] trivial Tryz.func88 (.t (.t (.two (.t (.loop [.slot 3 (.own 3 y3),.s 4] (.t (.join [.slot 3 (.own 3 y3)] .no .no)))) .no)))
theorem IX:FOk Tryz.prog 55 Bl:=fk [(86,zg),(87,uO),(88,G9)] ⟨Hg,CQ,Pq,trivial⟩ Tryz.func55 (.t (.t (.t (.t (.two (.t (.loop [.s 9,.s 10] (.t (.join [.s 9] .no .no)))) .no)))))
theorem CR:FOk Tryz.prog 26 uP:=fk [(54,Bk),(55,Bl)] ⟨IW,IX,trivial⟩ Tryz.func26 (.t (.t (.two (.t (.loop [.slot 5 (.own 81 y81),.s 6] (.t (.two (.t (.t (.loop [.slot 5 (.own 81 y81),.s 8] .no))) .no)))) .no)))
theorem se:FOk Tryz.prog 9 nQ:=fk [(24,pU),(25,eR),(26,uP)] ⟨xe,fR,CR,trivial⟩ Tryz.func9 .no
theorem DM:FOk Tryz.prog 92 yg:=fk [] trivial Tryz.func92 (.t (.two (.t (.loop [.s 5] .no)) .no))
theorem BN:FOk Tryz.prog 132 vH:=fk [] trivial Tryz.func132 .no
theorem Mm:FOk Tryz.prog 161 DG:=fk [(132,vH)] ⟨BN,trivial⟩ Tryz.func161 (.t (.t (.two (.loop [.s 5] .no) .no))) (an:=[(36,.bool)])
theorem yr:FOk Tryz.prog 119 qN:=fk [(92,yg),(161,DG)] ⟨DM,Mm,trivial⟩ Tryz.func119 (.t (.t (.two (.t (.loop [.slot 5 (.own 81 y81),.s 6] (.t (.join [.slot 5 (.own 81 y81)] .no .no)))) .no)))
theorem zH:FOk Tryz.prog 82 rT:=fk [(119,qN)] ⟨yr,trivial⟩ Tryz.func82 .no
theorem CS:FOk Tryz.prog 48 uQ:=fk [(8,vG),(9,nQ),(82,rT)] ⟨BM,se,zH,trivial⟩ Tryz.func48 .no
theorem BO:FOk Tryz.prog 20 tg:=fk [(47,Bi),(48,uQ)] ⟨IU,CS,trivial⟩ Tryz.func20 .no
theorem yt:FOk Tryz.prog 7 qO:=fk [(20,tg)] ⟨BO,trivial⟩ Tryz.func7 (.t (.t (.two (.t (.loop [.slot 8 (.own 51 y51),.s 9,.box 5 [(.num .i64),(.num .i64),(.num .i64)]] .no)) .no)))
theorem oy:FOk Tryz.prog 89 iX:=fk [] trivial Tryz.func89 (.t (.t (.two (.t (.loop [.s 13] .no)) .no)))
theorem CT:FOk Tryz.prog 56 uR:=fk [(89,iX)] ⟨oy,trivial⟩ Tryz.func56 .no
theorem BP:FOk Tryz.prog 27 th:=fk [(56,uR)] ⟨CT,trivial⟩ Tryz.func27 .no
theorem yu:FOk Tryz.prog 10 qP:=fk [(27,th)] ⟨BP,trivial⟩ Tryz.func10 .no
theorem pW:FOk Tryz.prog 33 nC:=fk [(65,gV),(66,nP)] ⟨iL,sd,trivial⟩ Tryz.func33 (.t (.two (.t (.loop [.s 7] .no)) .no))
theorem kW:FOk Tryz.prog 94 fA:=fk [(133,dG)] ⟨gu,trivial⟩ Tryz.func94 .no
theorem zI:FOk Tryz.prog 95 rU:=fk [(96,dU)] ⟨gX,trivial⟩ Tryz.func95 .no
theorem uY:FOk Tryz.prog 62 ql:=fk [(94,fA),(95,rU)] ⟨kW,zI,trivial⟩ Tryz.func62 .no
theorem BQ:FOk Tryz.prog 57 vI:=fk [(33,nC),(62,ql)] ⟨pW,uY,trivial⟩ Tryz.func57 .no
theorem zJ:FOk Tryz.prog 59 rV:=SL SO (enters_of Tryz.func59 (by kernel_rfl) rfl)
theorem xf:FOk Tryz.prog 29 rE:=fk [(59,rV)] ⟨zJ,trivial⟩ Tryz.func29 .no
theorem zK:FOk Tryz.prog 90 rW:=SM SN Pc 9 (enters_of Tryz.func90 (by kernel_rfl) rfl)
theorem BR:FOk Tryz.prog 58 tj:=fk [(29,rE),(33,nC),(90,rW)] ⟨xf,pW,zK,trivial⟩ Tryz.func58 (.t (.t (.t (.two (.t (.loop [.slot 3 (.own 9 y9),.s 17] .no)) .no))))
theorem BS:FOk Tryz.prog 28 tk:=fk [(57,vI),(58,tj)] ⟨BQ,BR,trivial⟩ Tryz.func28 .no
theorem yw:FOk Tryz.prog 11 qQ:=fk [(28,tk),(29,rE)] ⟨BS,xf,trivial⟩ Tryz.func11 .no
theorem zo:FOk Tryz.prog 93 tl:=fk [(22,kJ),(132,vH)] ⟨l6,BN,trivial⟩ Tryz.func93 (.t (.two (.t (.loop [.s 3] .no)) .no))
theorem IY:FOk Tryz.prog 60 Bm:=fk [(92,yg),(93,tl)] ⟨DM,zo,trivial⟩ Tryz.func60 (.t (.two (.t (.loop [.s 3] .no)) .no))
theorem BT:FOk Tryz.prog 61 tm:=fk [(31,om),(93,tl)] ⟨rH,zo,trivial⟩ Tryz.func61 (.t (.t (.t (.t (.two (.t (.loop [.slot 3 .str,.s 4] (.t (.two (.two (.t (.at [.slot 3 .str] .no)) .no) .no)))) .no)))))
theorem BU:FOk Tryz.prog 30 tn:=fk [(60,Bm),(61,tm)] ⟨IY,BT,trivial⟩ Tryz.func30 .no
theorem yx:FOk Tryz.prog 12 qR:=fk [(30,tn),(31,om)] ⟨BU,rH,trivial⟩ Tryz.func12 .no
theorem xg:FOk Tryz.prog 34 rF:=fk [] trivial Tryz.func34 .no
theorem CU:FOk Tryz.prog 64 uS:=fk [(98,vE)] ⟨BJ,trivial⟩ Tryz.func64 .no
theorem CV:FOk Tryz.prog 32 uT:=fk [(33,nC),(34,rF),(57,vI),(62,ql),(63,mL),(64,uS)] ⟨pW,xg,BQ,uY,qX,CU,trivial⟩ Tryz.func32 .no
theorem zL:FOk Tryz.prog 13 rX:=fk [(32,uT),(33,nC),(34,rF)] ⟨CV,pW,xg,trivial⟩ Tryz.func13 .no
theorem BV:FOk Tryz.prog 14 tp:=fk [(35,vC),(36,vF),(37,jW)] ⟨BE,BK,mN,trivial⟩ Tryz.func14 .no
theorem CW:FOk Tryz.prog 15 uU:=fk [] trivial Tryz.func15 (.t (.t (.two (.t (.loop [.s 5] .no)) .no)))
theorem CX:FOk Tryz.prog 3 CC:=fk [(4,Pe),(5,nz),(6,qM),(7,qO),(8,vG),(9,nQ),(10,qP),(11,qQ),(12,qR),(13,rX),(14,tp),(15,uU),(16,dS)] ⟨WY,tv,yq,yt,BM,se,yu,yw,yx,zL,BV,CW,fm,trivial⟩ Tryz.func3 (.t (.t (.t (.t (.t (.t (.t (.t (.t (.two (.t (.loop [.slot 12 (.rd 81 y81),.s 15] .no)) .no)))))))))) (tr:=[(3,0,.raw),(4,0,.raw),(5,0,.raw),(38,0,.raw),(41,0,.raw),(51,0,.raw),(67,0,.raw),(81,0,.raw),(101,0,.raw),(104,0,.raw),(191,0,.raw)])
end R
namespace D
open Go.RowKit
theorem CY (d:List Int) (r:Bool) (j:nh d=some r) {I:Hp} {w0:World} (a:Value) (b:(aw 5 rU8).rd I [a] d) (i:Lay Tryz.prog I):Con Tryz.prog 3 #[a] I w0 [] (fun v=>v= .bool r) (fun _=>[]):=fun w C f =>
 ((R.CX).con rfl w0 I undef [a] (d,()) r i ⟨_,_,rfl,⟨[a],rfl,b⟩,rfl⟩ j w C f).mono fun e k ⟨v,g,_,c⟩=>by
  obtain ⟨h1,h⟩:=R.wo (h1:=fun _=>rfl) (show St I w0 k (Ch.own R.Ty.bool.rep [v] r::C) from c);exact ⟨v,g,(List.cons.inj h1).1,h⟩
def I64 (n:Int):Prop:= -9223372036854775808<=n/\n<=9223372036854775807
class Data (α:Type) where
 lim:α->Prop
 sm:α->Prop
instance:Data Int:=⟨I64,fun _=>True⟩
instance:Data Bool:=⟨fun _=>True,fun _=>True⟩
instance:Data ByteArray:=⟨fun s=>s.size<=9223372036854775807,fun s=>s.size<=1048576⟩
instance {α β:Type} [Data α] [Data β] :Data (α×β):=⟨fun x=>Data.lim x.1/\Data.lim x.2,fun x=>Data.sm x.1/\Data.sm x.2⟩
instance {α:Type} [Data α] :Data (List α):=⟨fun xs=>xs.length<=9223372036854775807/\ ∀x,x∈xs->Data.lim x,fun xs=>xs.length<=1048576/\ ∀x,x∈xs->Data.sm x⟩
structure Opens (P:Program) (t:TypeId) {α:Type} [Data α] (R:Rep α):Prop where
 out: ∀ {H:Type} (enc:TypeId×Value->H) (w:World) (fuel:Nat) (cs:List Value) (x:DataW H×List MemPlace),DataW.trod enc P w 0 (fun _=>true) true fuel t cs=some x-> ∃a:α,R.rd (hp w) cs a/\Data.lim a
theorem SS {P:Program} {t:TypeId} (h:P.underlying t=some (.int .u8)):Opens P t rU8:=by
 constructor;intro H a w fuel d x c;obtain ⟨n,rfl,-,b⟩:=DataW.trod_int h c;refine ⟨n,rfl,show I64 n from ?_⟩;simp[Lit.wf,IntKind.min,IntKind.max,IntKind.signed,IntKind.bits] at b;unfold I64;omega
theorem IZ {P:Program} {t e:TypeId} {α:Type} [Data α] {R:Rep α} {E:TypeId} (h:P.underlying t=some (.slice e)) (hc:P.cellsOf e=R.size) (W:0<R.size) (K:Opens P e R):Opens P t (aw E R):=by
 constructor;intro H M w fuel cs x F;rcases Go.Deep.open_slice h F with ⟨rfl,-⟩ | ⟨a,len,cap,m,n,D,Pl,rfl,-,hl,S,I,-,z⟩
 ·exact ⟨[],⟨none,0,rfl,by simp,.inl rfl⟩,Nat.zero_le _,fun x F=>by cases F⟩
 have L:m=cap:=by simpa using I
 subst L;rw[hc] at z;by_cases hz:len=0
 ·subst hz;exact ⟨[],⟨some a,m,rfl,by simp,.inl rfl⟩,Nat.zero_le _,fun x F=>by cases F⟩
 ·have l: ∀i,i<len-> ∃c:List Value,∃y:α,c.length=R.size/\(∀j,j<R.size->w.cell? ((a.add (i*R.size)).add j)=c[j]?)/\R.rd (hp w) c y/\Data.lim y:=by
   intro i g;obtain ⟨c,u,A⟩:=z i (by omega);obtain ⟨-,J,Y⟩:=World.cells?_some u;obtain ⟨y,q⟩:=K.out M w _ _ _ A;exact ⟨c,y,J,Y,q⟩
  obtain ⟨c0,y0,hc0,G,-⟩:=l 0 (by omega);have d:=G 0 W;have r: ∃v,c0[0]? =some v:=⟨_,List.getElem?_eq_getElem (by omega)⟩;obtain ⟨v,hv⟩:=r;rw[hv] at d;have Z:(a.add (0*R.size)).add 0=a:=by simp[Addr.add]
  rw[Z] at d;obtain ⟨b,off,spot⟩:=a;have U: ∃f T C,w.heap[b]? =some (.cells f T C)/\spot=none:=by
   simp only[World.cell?] at d;split at d
   ·rename_i f T C N;cases spot with
    | none=>exact ⟨f,T,C,N,rfl⟩
    | some s=>simp at d
   ·simp at d
  obtain ⟨f,T,C,Q,rfl⟩:=U;have B: ∀i j,(Addr.add ⟨b,off,none⟩ i).add j=⟨b,off+i+j,none⟩:=by
   intro i j;by_cases u:i=0 <;> by_cases A:j=0 <;> simp[Addr.add,u,A,Nat.add_assoc]
  haveI:Inhabited α:=⟨y0⟩
  obtain ⟨X,O⟩:=Go.Deep.choose_lt (α:=α) (n:=len) (p:=fun i y=> ∃c:List Value,c.length=R.size/\(∀j,j<R.size->f.toList[off+i*R.size+j]? =c[j]?)/\R.rd (hp w) c y/\Data.lim y) (fun i g=>by
   obtain ⟨c,y,u,A,J⟩:=l i g;refine ⟨y,c,u,fun j hj=>?_,J⟩
   have:=A j hj
   rw[B] at this;simp only[World.cell?,Q] at this;simpa using this)
  have k:((List.range len).map X).length=len:=by simp
  have o: ∀i y,((List.range len).map X)[i]? =some y->i<len/\y=X i:=fun i y q=>by
   have g:i<len:=by have:=(List.getElem?_eq_some_iff.1 q).1;omega
   exact ⟨g,by simpa [g] using q.symm⟩
  refine ⟨(List.range len).map X,⟨some ⟨b,off,none⟩,m,by rw[k],by rw[k];unfold maxLen at S;unfold lim;omega,.inr ⟨b,off,f,T,C,rfl,Q,fun i y q=>?_⟩⟩,by rw[k];unfold maxLen at S;omega,fun y q=>?_⟩
  ·obtain ⟨g,rfl⟩:=o i y q;obtain ⟨c,e1,e2,e3,-⟩:=O i g;exact ⟨c,e1,e2,e3⟩
  ·obtain ⟨i,g,K⟩:=List.mem_iff_getElem?.1 q |>.imp fun i g=>o i y g;obtain ⟨-,-,-,-,V⟩:=O i g;rw[K];exact V
theorem St.below {w0 w:World} {cs:List Ch} (h:St (hp w0) w0 w cs):Below w0.heap.size w0 w:=by
 obtain ⟨⟨f,d,g,c⟩,i,-⟩:=h;refine ⟨f,d,g,c,fun b a=>?_⟩;have e:w0.heap[b]? =some w0.heap[b]:=Array.getElem?_eq_getElem a;rw[e];exact i b _ e
theorem bA {n:Int} (h1: -9223372036854775808<=n) (a:n<=9223372036854775807):i64.wrap n=n:=by
 simp only[IntKind.wrap,IntKind.bits,IntKind.signed,Bool.true_and];split <;> rename_i h <;> simp at h <;> omega
theorem af {i:Nat} (h:i<9223372036854775807):i64.wrap ((i:Int)+1)=((i+1:Nat):Int):=by
 rw[bA (by omega) (by omega)];rfl
theorem aI {α:Type} {xs:List α} {i:Nat} (h:i<xs.length):aP xs (i:Int)=some (xs[i]):=by
 unfold aP;rw[if_pos (Int.natCast_nonneg _)];simp[h]
theorem cH {i n:Nat} (h:i<n):decide ((i:Int)<(n:Int))=true:=by simp[h]
theorem cj {n:Nat} :decide ((n:Int)<(n:Int))=false:=by simp
theorem gx (k:Nat) (h:k<=9223372036854775807):k<aT:=by unfold aT;omega
theorem Y9 {α:Type} {b n:Nat} {z:α} (h:n*b<=140737488355328):mkI b (n:Int) z=some (List.replicate n z):=by
 unfold mkI;rw[if_pos ⟨Int.natCast_nonneg _,by simpa using h⟩];simp
theorem Hh {R S:Type} {f:S->Option (Out R S)} (inv:Nat->S) (N:Nat) (h: ∀i,i<N->f (inv i)=some (.nxt (inv (i+1)))): ∀(m i k:Nat),i+m=N->aq f (k+m) (inv i)=aq f k (inv N)
 | 0,i,k,e=>by rw[show i=N by omega];rfl
 | m+1,i,k,e=>by
  rw[<-Nat.add_assoc,aq,h i (by omega)];exact Hh inv N h m (i+1) k (by omega)
theorem Ps {R S:Type} {f:S->Option (Out R S)} (inv:Nat->S) (N:Nat) {s:S} (h: ∀i,i<N->f (inv i)=some (.nxt (inv (i+1)))) (a:f (inv N)=some (.brk s)) (b:N<aT):aq f aT (inv 0)=some (.brk s):=by
 have e:aT=(aT - N - 1)+1+N:=by omega
 rw[e,Hh inv N h N 0 _ (by omega),aq,a]
theorem abX {α:Type} [Data α] {f:Int×Int->Option MP } (xs:List α)
  (a: ∀i (h:i<xs.length) l,0<=l->l<=1048576-> ∃r,f (l,(i:Int))=some (if r<0 then .ret (-1) else .nxt (r,((i+1:Nat):Int)))/\(r<0\/(0<=r/\r<=l/\Data.sm xs[i])))
  (b: ∀l,f (l,(xs.length:Int))=some (.brk (l,(xs.length:Int)))): ∀(m i k:Nat) (l:Int),i+m=xs.length->m<k->0<=l->l<=1048576->
   aq f k (l,(i:Int))=some (.ret (-1))\/ ∃r,aq f k (l,(i:Int))=some (.brk (r,(xs.length:Int)))/\0<=r/\r<=l/\ ∀j (h:j<xs.length),i<=j->Data.sm xs[j]
 | 0,i,k,l,e,hk,h0,h1=>by
  obtain ⟨k,rfl⟩: ∃q,k=q+1:=⟨k - 1,by omega⟩;obtain rfl:i=xs.length:=by omega
  exact .inr ⟨l,by rw[aq,b],h0,Int.le_refl _,fun j g p=>by omega⟩
 | m+1,i,k,l,e,hk,h0,h1=>by
  obtain ⟨k,rfl⟩: ∃q,k=q+1:=⟨k - 1,by omega⟩;obtain ⟨r,s,c⟩:=a i (by omega) l h0 h1;rw[aq,s];rcases c with c | ⟨c,w,n⟩
  ·rw[if_pos c];exact .inl rfl
  ·rw[if_neg (by omega)];rcases abX xs a b m (i+1) k r (by omega) (by omega) c (by omega) with h | ⟨q,u,o,v,t⟩
   ·exact .inl h
   ·refine .inr ⟨q,u,o,by omega,fun j g p=>?_⟩;by_cases d:j=i
    ·subst d;exact n
    ·exact t j g (by omega)
theorem szL {α:Type} [Data α] {f:Int×Int->Option MP } (xs:List α) {l:Int} (d:xs.length<=9223372036854775807)
  (a: ∀i (h:i<xs.length) l,0<=l->l<=1048576-> ∃r,f (l,(i:Int))=some (if r<0 then .ret (-1) else .nxt (r,((i+1:Nat):Int)))/\(r<0\/(0<=r/\r<=l/\Data.sm xs[i])))
  (b: ∀l,f (l,(xs.length:Int))=some (.brk (l,(xs.length:Int)))) (o:0<=l) (h1:l<=1048576) :
  ∃r,(if decide (i64.wrap (l - (xs.length:Int))<0) then (some (-1)) else (aN (aq f aT (i64.wrap (l - (xs.length:Int)),0)) (fun r=>some r) (fun g=>some g.1)))=some r/\(r<0\/(0<=r/\r<=l/\Data.sm xs)):=by
 rw[bA (by omega) (by omega)];by_cases h:l - (xs.length:Int)<0
 ·exact ⟨-1,by rw[if_pos (decide_eq_true h)],.inl (by decide)⟩
 ·rw[if_neg (by simpa using h)];rcases abX xs a b xs.length 0 aT (l - xs.length) (by omega) (gx _ d) (by omega) (by omega) with e | ⟨r,e,m,p,c⟩
  ·exact ⟨-1,by rw[show ((0:Int))=((0:Nat):Int) from rfl,e];rfl,.inl (by decide)⟩
  ·refine ⟨r,by rw[show ((0:Int))=((0:Nat):Int) from rfl,e];rfl,.inr ⟨m,by omega,by omega,fun x n=>?_⟩⟩;obtain ⟨j,k,rfl⟩:=List.getElem_of_mem n;exact c j k (Nat.zero_le _)
theorem aa2 {α:Type} [DecidableEq α] {f:Int->Option (Out Bool Int)} (xs ys:List α) (j:xs.length=ys.length)
  (a: ∀i (h:i<xs.length) (n:i<ys.length),f (i:Int)=some (if xs[i] =ys[i] then .nxt ((i+1:Nat):Int) else .ret false)) (b:f (xs.length:Int)=some (.brk (xs.length:Int))): ∀(m i k:Nat),i+m=xs.length->m<k->
   aq f k (i:Int)=some (if xs.drop i=ys.drop i then .brk (xs.length:Int) else .ret false)
 | 0,i,k,e,hk=>by
  obtain ⟨k,rfl⟩: ∃q,k=q+1:=⟨k - 1,by omega⟩;obtain rfl:i=xs.length:=by omega
  rw[aq,b,List.drop_of_length_le (aL _),List.drop_of_length_le (by omega),if_pos rfl]
 | m+1,i,k,e,hk=>by
  obtain ⟨k,rfl⟩: ∃q,k=q+1:=⟨k - 1,by omega⟩;have d:i<xs.length:=by omega
  have c:i<ys.length:=by omega
  have g:=List.drop_eq_getElem_cons d;have l:=List.drop_eq_getElem_cons c;rw[aq,a i d c,g,l];by_cases h:xs[i] =ys[i]
  ·rw[if_pos h];simp only;rw[aa2 xs ys j a b m (i+1) k (by omega) (by omega)];simp only[List.cons.injEq,h,true_and]
  ·rw[if_neg h];simp only[List.cons.injEq,h,false_and,if_false]
theorem eqL {α:Type} [DecidableEq α] {f:Int->Option (Out Bool Int)} (xs ys:List α) (d:xs.length<=9223372036854775807)
  (a: ∀i (h:i<xs.length) (j:i<ys.length),f (i:Int)=some (if xs[i] =ys[i] then .nxt ((i+1:Nat):Int) else .ret false)) (b:f (xs.length:Int)=some (.brk (xs.length:Int))) :
  (if (xs.length:Int) !=(ys.length:Int) then (some false) else (aN (aq f aT 0) (fun r=>some r) (fun g=>some true)))=some (decide (xs=ys)):=by
 by_cases c:xs.length=ys.length
 ·rw[if_neg (by rw[c];simp),show ((0:Int))=((0:Nat):Int) from rfl,aa2 xs ys c a b xs.length 0 aT (by omega) (gx _ d)];by_cases h:xs=ys
  ·subst h;simp[aN]
  ·simp[aN,h]
 ·have:xs≠ys:=fun e=>c (by rw[e])
  rw[if_pos (by simp;omega)];simp[this]
theorem eqB {α:Type} [DecidableEq α] {f:Int->Option (Out Bool Int)} {K:Option Bool} (xs ys:List α) (d:xs.length<=9223372036854775807) (c:xs.length=ys.length)
  (a: ∀i (h:i<xs.length) (g:i<ys.length),f (i:Int)=some (if xs[i] =ys[i] then .nxt ((i+1:Nat):Int) else .ret false)) (b:f (xs.length:Int)=some (.brk (xs.length:Int))) :
  aN (aq f aT 0) (fun r=>some r) (fun e=>K)=(if xs=ys then K else some false):=by
 rw[show ((0:Int))=((0:Nat):Int) from rfl,aa2 xs ys c a b xs.length 0 aT (by omega) (gx _ d)];by_cases h:xs=ys
 ·subst h;simp[aN]
 ·simp[aN,h]
theorem Za {f:Int->Option (Out Int Int)} (xs ys:List Int)
  (b: ∀i (h:i<xs.length) (u:i<ys.length),f (i:Int)=some (if xs[i] < ys[i] then .ret (-1) else if xs[i] > ys[i] then .ret 1 else .nxt ((i+1:Nat):Int))) (a: ∀i,xs.length<=i\/ys.length<=i->f (i:Int)=some (.brk (i:Int))): ∀(m i k:Nat),i+m=xs.length->m<k->
   (∃r,aq f k (i:Int)=some (.ret r)/\r≠0/\xs≠ys)\/ ∃s,aq f k (i:Int)=some (.brk s)/\(xs.length=ys.length->xs.drop i=ys.drop i)
 | 0,i,k,e,hk=>by
  obtain ⟨k,rfl⟩: ∃q,k=q+1:=⟨k - 1,by omega⟩;exact .inr ⟨_,by rw[aq,a i (.inl (by omega))],fun h=>by rw[List.drop_of_length_le (by omega),List.drop_of_length_le (by omega)]⟩
 | m+1,i,k,e,hk=>by
  obtain ⟨k,rfl⟩: ∃q,k=q+1:=⟨k - 1,by omega⟩;have j:i<xs.length:=by omega
  by_cases c:i<ys.length
  ·have d: ∀h:xs[i] ≠ys[i],xs≠ys:=fun h e=>h (by subst e;rfl);rw[aq,b i j c];by_cases g:xs[i] < ys[i]
   ·rw[if_pos g];exact .inl ⟨-1,rfl,by decide,d (by omega)⟩
   ·rw[if_neg g];by_cases l:xs[i] > ys[i]
    ·rw[if_pos l];exact .inl ⟨1,rfl,by decide,d (by omega)⟩
    ·rw[if_neg l];rcases Za xs ys b a m (i+1) k (by omega) (by omega) with h | ⟨s,t,n⟩
     ·exact .inl h
     ·refine .inr ⟨s,t,fun p=>?_⟩;have o:xs[i] =ys[i]:=by omega
      rw[List.drop_eq_getElem_cons j,List.drop_eq_getElem_cons c,n p,o]
  ·exact .inr ⟨_,by rw[aq,a i (.inr (by omega))],fun h=>by omega⟩
instance:LawfulBEq ByteArray where
 eq_of_beq {a b} h:=ByteArray.ext (eq_of_beq (show (a.data==b.data)=true from h))
 rfl {a}:=beq_self_eq_true a.data
theorem jX {α β:Type} (p:α×β):(p.1,p.2)=p:=rfl
theorem bd {α:Type} [Data α] {xs:List α} (h:Data.sm xs):xs.length<=1048576/\ ∀x,x∈xs->Data.sm x:=h
theorem b9 {R S:Type} {f:S->Option (Out R S)} (Inv:Nat->S->Prop) (Q:Out R S->Prop) (N:Nat)
  (h: ∀i s,i<=N->Inv i s->(i<N/\ ∃a,f s=some (.nxt a)/\Inv (i+1) a)\/ ∃o,f s=some o/\(∀a,o≠ .nxt a)/\Q o) {s:S} (j:Inv 0 s) (p:N<aT): ∃o,aq f aT s=some o/\Q o:=by
 have key: ∀(k i:Nat) (s:S),i<=N->N<i+k->Inv i s-> ∃o,aq f k s=some o/\Q o:=by
  intro k;induction k with
  | zero=>intro i s d l;omega
  | succ k ih =>
   intro i s d l m;rcases h i s d m with ⟨q,a,e,b⟩ | ⟨o,e,g,c⟩
   ·obtain ⟨o,n,c⟩:=ih (i+1) a (by omega) (by omega) b;exact ⟨o,by rw[aq,e];exact n,c⟩
   ·refine ⟨o,?_,c⟩;rw[aq,e];cases o with
    | nxt a=>exact absurd rfl (g a)
    | brk a=>rfl
    | ret r=>rfl
 exact key aT 0 s (by omega) (by omega) j
theorem eW {R S:Type} {f:S->Option (Out R S)} (Inv:Nat->S->Prop) (N:Nat) (h: ∀i s,i<N->Inv i s-> ∃a,f s=some (.nxt a)/\Inv (i+1) a) (d: ∀s,Inv N s->f s=some (.brk s)) {s:S} (g:Inv 0 s) (j:N<aT): ∃a,aq f aT s=some (.brk a)/\Inv N a:=by
 obtain ⟨o,e,a,rfl,h⟩:=b9 (f:=f) Inv (fun o=> ∃a,o= .brk a/\Inv N a) N (fun i s k b=>by
  by_cases c:i<N
  ·exact .inl ⟨c,h i s c b⟩
  ·obtain rfl:i=N:=by omega
   exact .inr ⟨_,d s b,(fun a e=>by cases e),s,rfl,b⟩) g j
 exact ⟨a,e,h⟩
theorem aO {R S:Type} {f:S->Option (Out R S)} (a:Nat->S) (N:Nat) (h: ∀i,i<N->f (a i)=some (.nxt (a (i+1)))) (b:f (a N)=some (.brk (a N))) (c:N<aT):aq f aT (a 0)=some (.brk (a N)):=Ps a N h b c
theorem kz {k:Nat} (h:k<=9223372036854775807):k<aT:=gx k h
theorem xh {i:Nat} (h:i<=9223372036854775807):i64.wrap (i:Int)=(i:Int):=bA (by omega) (by omega)
theorem nF {i:Nat} (h:i<=9223372036854775807):i64.wrap ((i:Int) - 1)=(i:Int) - 1:=bA (by omega) (by omega)
theorem ay {α:Type} {b:Nat} {xs ys:List α} (h:(xs.length+ys.length)*b<=140737488355328):bM b xs ys=some (xs++ys):=by unfold bM;rw[if_pos h]
theorem WZ {i n:Nat} :decide ((i:Int)<(n:Int))=decide (i<n):=by simp
theorem bg {R S T:Type} {x:Option (Out R S)} {r:R} {a:R->Option T} {k:S->Option T} (h:x=some (.ret r)):aN x a k=a r:=by rw[h];rfl
theorem ah {R S T:Type} {x:Option (Out R S)} {s:S} {a:R->Option T} {k:S->Option T} (h:x=some (.brk s)):aN x a k=k s:=by rw[h];rfl
def nth {α:Type} [Inhabited α] (xs:List α) (i:Int):α:=xs.getD i.toNat default
section
variable {α:Type} [Inhabited α] {xs ys:List α}
theorem au {i:Int} (a:0<=i) (h1:i<xs.length):aP xs i=some (nth xs i):=by
 unfold aP nth;rw[if_pos a]
 have:i.toNat<xs.length:=by omega
 simp[List.getD_eq_getElem?_getD,this]
theorem de {i:Nat} (h:i<xs.length):nth xs (i:Int)=xs[i]:=by simp[nth,List.getD_eq_getElem?_getD,h]
theorem bT {i:Int} (a:0<=i) (h1:i<xs.length):nth xs i∈xs:=by
 have:i.toNat<xs.length:=by omega
 have e:nth xs i=xs[i.toNat]:=by simp[nth,List.getD_eq_getElem?_getD,this]
 rw[e];exact List.getElem_mem this
theorem px {i:Int} (a:0<=i) (h1:i<xs.length):nth (xs++ys) i=nth xs i:=by
 have:i.toNat<xs.length:=by omega
 simp[nth,List.getD_eq_getElem?_getD,List.getElem?_append_left this]
theorem W0 {β:Type} [Inhabited β] {f:α->β} {i:Int} (a:0<=i) (h1:i<xs.length):nth (xs.map f) i=f (nth xs i):=by
 have:i.toNat<xs.length:=by omega
 simp[nth,List.getD_eq_getElem?_getD,this]
theorem BW {x:α} (h:x∈xs): ∃i:Nat,i<xs.length/\nth xs (i:Int)=x:=by
 obtain ⟨i,a,rfl⟩:=List.getElem_of_mem h;exact ⟨i,a,de a⟩
theorem pX {i:Int} {x:α} (a:0<=i) (h1:i<xs.length):nth (xs.set i.toNat x) i=x:=by
 have:i.toNat<xs.length:=by omega
 simp[nth,List.getD_eq_getElem?_getD,this]
theorem uh {i j:Int} {x:α} (b:0<=i) (a:0<=j) (h:i≠j):nth (xs.set i.toNat x) j=nth xs j:=by
 have:i.toNat≠j.toNat:=by omega
 simp[nth,List.getD_eq_getElem?_getD,List.getElem?_set_ne this]
theorem W1 (h:xs.length=ys.length) (k: ∀i:Nat,i<xs.length->nth xs (i:Int)=nth ys (i:Int)):xs=ys:=by
 refine List.ext_getElem h fun i a b=>?_
 have:=k i a
 rwa [de a,de b] at this
end
section
variable {κ:Type} [DecidableEq κ]
def nbL (l:List κ):Option κ->List κ
 | none=>l
 | some x=>if x∈l then l else l++ [x]
def nbI (l:List κ):Option κ->Int
 | none=> -1
 | some x=>(l.idxOf x:Int)
def nbS (l:List κ) (os:List (Option κ)):List κ:=os.foldl nbL l
def nbR (l:List κ):List (Option κ)->List Int
 | [] =>[]
 | o::os=>nbI l o::nbR (nbL l o) os
theorem xi (l:List κ) (os:List (Option κ)) (o:Option κ):nbS l (os++ [o])=nbL (nbS l os) o:=by simp[nbS]
theorem ui: ∀(l:List κ) (os:List (Option κ)) (o:Option κ),nbR l (os++ [o])=nbR l os++ [nbI (nbS l os) o]
 | l,[],o=>rfl
 | l,p::os,o=>by
  show nbI l p::nbR (nbL l p) (os++ [o])=nbI l p::nbR (nbL l p) os++ [nbI (nbS (nbL l p) os) o];rw[ui (nbL l p) os o];rfl
theorem iM: ∀(l:List κ) (os:List (Option κ)),(nbR l os).length=os.length
 | l,[] =>rfl
 | l,o::os=>by show (nbR (nbL l o) os).length+1=_;rw[iM];rfl
theorem Mn (l : List κ) (o : Option κ) : l <+: nbL l o := by
  cases o with
  | none => exact List.prefix_refl l
  | some x => unfold nbL; simp only; split
              · exact List.prefix_refl l
              · exact List.prefix_append l [x]
theorem mP: ∀(l:List κ) (os:List (Option κ)),l <+:nbS l os
 | l,[] =>List.prefix_refl l
 | l,o::os=>(Mn l o).trans (mP (nbL l o) os)
theorem Pt {l : List κ} {o : Option κ} (h : l.Nodup) : (nbL l o).Nodup := by
  cases o with
  | none => exact h
  | some x => unfold nbL; simp only; split
              · exact h
              · rename_i e; exact List.nodup_append.2 ⟨h, by simp, by rintro a d b c rfl; simp at c; exact e (c ▸ d)⟩
theorem tD: ∀ {l:List κ} {os:List (Option κ)},l.Nodup->(nbS l os).Nodup
 | l,[],h=>h
 | l,o::os,h=>tD (l:=nbL l o) (os:=os) (Pt h)
theorem Pu {l : List κ} {o : Option κ} {x : κ} : x ∈ nbL l o ↔ x ∈ l \/ o = some x := by
  cases o with
  | none => simp [nbL]
  | some y => unfold nbL; simp only; split
              · rename_i h; constructor
                · exact .inl
                · rintro (a | a)
                  · exact a
                  · simp at a; exact a ▸ h
              · simp; exact or_congr Iff.rfl eq_comm
theorem yy: ∀ {l:List κ} {os:List (Option κ)} {x:κ},x∈nbS l os↔x∈l\/some x∈os
 | l,[],x=>by simp[nbS]
 | l,o::os,x=>by
  show x∈nbS (nbL l o) os↔_;rw[yy,Pu,List.mem_cons,or_assoc];exact or_congr Iff.rfl (or_congr eq_comm Iff.rfl)
theorem nT {l:List κ} {x:κ} (h:x∈l):nbL l (some x)=l:=by simp[nbL,h]
theorem nU {l:List κ} {x:κ} (h:x∉l):nbL l (some x)=l++ [x]:=by simp[nbL,h]
theorem qY {l:List κ} {x:κ} (h:x∉l):l.idxOf x=l.length:=List.idxOf_eq_length h
def bfS (nx:κ->List (Option κ)) (first:κ):Nat->List κ
 | 0=>[first]
 | i+1=>match (bfS nx first i)[i]? with
  | some x=>nbS (bfS nx first i) (nx x)
  | none=>bfS nx first i
def bfR (nx:κ->List (Option κ)) (first:κ):Nat->List (List Int)
 | 0=>[]
 | i+1=>bfR nx first i++(match (bfS nx first i)[i]? with
  | some x=>[nbR (bfS nx first i) (nx x)]
  | none=>[])
variable {nx:κ->List (Option κ)} {first:κ}
theorem E4 {i:Nat} (h:i<(bfS nx first i).length):bfS nx first (i+1)=nbS (bfS nx first i) (nx ((bfS nx first i)[i])):=by
 rw[bfS,List.getElem?_eq_getElem h]
theorem xj {i:Nat} (h:i<(bfS nx first i).length):bfR nx first (i+1)=bfR nx first i++ [nbR (bfS nx first i) (nx ((bfS nx first i)[i]))]:=by
 rw[bfR,List.getElem?_eq_getElem h]
theorem bU (i:Nat):bfS nx first i <+:bfS nx first (i+1):=by
 rw[bfS];split
 ·exact mP _ _
 ·exact List.prefix_refl _
theorem yz {i j:Nat} (h:i<=j):bfS nx first i <+:bfS nx first j:=by
 induction h with
 | refl=>exact List.prefix_refl _
 | step _ ih=>exact ih.trans (bU _)
theorem py: ∀i,(bfS nx first i).Nodup
 | 0=>by simp[bfS]
 | i+1=>by
  rw[bfS];split
  ·exact tD (py i)
  ·exact py i
theorem mb {G:κ->Prop} (b:G first) (h: ∀x,G x-> ∀y,some y∈nx x->G y): ∀i,∀x∈bfS nx first i,G x
 | 0=>by simp[bfS];exact b
 | i+1=>by
  rw[bfS];split
  ·rename_i y c;intro x a;rcases yy.1 a with a | a
   ·exact mb b h i x a
   ·exact h y (mb b h i y (List.mem_of_getElem? c)) x a
  ·exact mb b h i
theorem Hi (i:Nat):(bfS nx first i)[0]? =some first:=by
 obtain ⟨t,a⟩:=yz (nx:=nx) (first:=first) (Nat.zero_le i);rw[<-a];rfl
theorem lq: ∀ {i:Nat},(∀j,j<i->j<(bfS nx first j).length)->(bfR nx first i).length=i
 | 0,_=>rfl
 | i+1,h=>by rw[xj (h i (by omega)),az,lq fun j a=>h j (by omega)];rfl
def bfE (nx:κ->List (Option κ)) (first:κ) (N:Nat):Prop:=N=(bfS nx first N).length/\ ∀i,i<N->i<(bfS nx first i).length
theorem UD {B:Nat} (c: ∀i,(bfS nx first i).length<=B): ∃N,N<=B/\bfE nx first N:=by
 have key: ∀m i,i+m=B->(∀j,j<i->j<(bfS nx first j).length)-> ∃N,N<=B/\bfE nx first N:=by
  intro m;induction m with
  | zero =>
   intro i b a;have g:=c i;have f:i<=(bfS nx first i).length:=by
    cases i with
    | zero=>omega
    | succ i =>
     have:=a i (by omega)
     have hp:=(bU (nx:=nx) (first:=first) i).length_le;omega
   exact ⟨i,by omega,by omega,a⟩
  | succ m ih =>
   intro i b a;by_cases h:i<(bfS nx first i).length
   ·exact ih (i+1) (by omega) fun j d=>by
     by_cases e:j=i
     ·subst e;exact h
     ·exact a j (by omega)
   ·have f:i<=(bfS nx first i).length:=by
     cases i with
     | zero=>omega
     | succ i =>
      have:=a i (by omega)
      have hp:=(bU (nx:=nx) (first:=first) i).length_le;omega
    exact ⟨i,by omega,by omega,a⟩
 exact key B 0 (by omega) (by omega)
theorem SU {N M:Nat} (h:bfE nx first N) (k:bfE nx first M):N=M:=by
 rcases Nat.lt_trichotomy N M with e | e | e
 ·have:=k.2 N e;have:=h.1;omega
 ·exact e
 ·have:=h.2 M e;have:=k.1;omega
end
abbrev AutT:=Int×(List Bool)×(List (List Int))
structure VA (a:AutT) (n:Nat):Prop where
 len:a.2.1.length=n
 start:0<=a.1/\a.1<n
 nlen:a.2.2.length=n
 row: ∀r∈a.2.2,r.length=9
 ent: ∀r∈a.2.2,∀t∈r,-1<=t/\t<n
def mv (a:AutT) (s:Int) (k:Nat):Int:=nth (nth a.2.2 s) k
theorem E5 (x l h:Int):dj x l h=some (decide (l<=x/\x<=h)):=by
 unfold dj;by_cases c:l<=x
 ·simp[c]
 ·have: ¬l<=x/\True:=⟨c,trivial⟩
  simp[c]
theorem I0 (x l h:Int):bK x l h=some (decide (l<=x/\x<=h)):=by
 unfold bK;by_cases c:l<=x
 ·simp[c]
 ·simp[c]
theorem scan {α R:Type} [Inhabited α] {f:Int->Option (Out R Int)} (xs:List α) (p:α->Prop) [DecidablePred p] (r:R) (l:xs.length<=9223372036854775807)
  (h: ∀i:Nat,i<xs.length->f (i:Int)=some (if p (nth xs i) then .nxt ((i+1:Nat):Int) else .ret r)) (m:f (xs.length:Int)=some (.brk (xs.length:Int))) :
  (aq f aT 0=some (.brk (xs.length:Int))/\ ∀x∈xs,p x)\/(aq f aT 0=some (.ret r)/\ ¬ ∀x∈xs,p x):=by
 obtain ⟨o,e,a⟩:=b9 (f:=f) (fun i s=>s=(i:Int)/\ ∀j:Nat,j<i->p (nth xs j)) (fun o=>(o= .brk (xs.length:Int)/\ ∀x∈xs,p x)\/(o= .ret r/\ ¬ ∀x∈xs,p x)) xs.length (s:=0) (by
  rintro i s n ⟨rfl,hp⟩;by_cases b:i<xs.length
  ·by_cases c:p (nth xs i)
   ·refine .inl ⟨b,_,by rw[h i b,if_pos c],rfl,fun j g=>?_⟩;by_cases e:j=i
    ·subst e;exact c
    ·exact hp j (by omega)
   ·refine .inr ⟨_,by rw[h i b,if_neg c],(fun k e=>by cases e),.inr ⟨rfl,fun d=>c (d _ (bT (by omega) (by omega)))⟩⟩
  ·obtain rfl:i=xs.length:=by omega
   refine .inr ⟨_,m,(fun k e=>by cases e),.inl ⟨rfl,fun x d=>?_⟩⟩;obtain ⟨j,g,rfl⟩:=BW d;exact hp j g) ⟨rfl,by omega⟩ (kz l)
 rcases a with ⟨rfl,a⟩ | ⟨rfl,a⟩
 ·exact .inl ⟨e,a⟩
 ·exact .inr ⟨e,a⟩
section
variable {a:AutT} {n:Nat} (V:VA a n)
include V
theorem VA.pos:0<n:=by have:=V.start;omega
theorem VA.rowAt {s:Int} (b:0<=s) (h1:s<n):(nth a.2.2 s).length=9:=V.row _ (bT b (by rw[V.nlen];exact h1))
theorem VA.mv {s:Int} {k:Nat} (b:0<=s) (h1:s<n) (c:k<9): -1<=mv a s k/\mv a s k<n:=
 V.ent _ (bT b (by rw[V.nlen];exact h1)) _ (bT (by omega) (by rw[V.rowAt b h1];omega))
theorem VA.get {s:Int} (b:0<=s) (h1:s<n):aP a.2.2 s=some (nth a.2.2 s):=au b (by rw[V.nlen];exact h1)
theorem VA.get2 {s:Int} {k:Nat} (b:0<=s) (h1:s<n) (c:k<9):aP (nth a.2.2 s) (k:Int)=some (D.mv a s k):=au (by omega) (by rw[V.rowAt b h1];omega)
theorem VA.acc {s:Int} (b:0<=s) (h1:s<n):aP a.2.1 s=some (nth a.2.1 s):=au b (by rw[V.len];exact h1)
theorem Ku {s:Int} {k:Nat} (b:0<=s) (h1:s<n) (c:k<9):bV a s (k:Int)=some (mv a s k):=by
 unfold bV k9;rw[if_neg (by simp;omega),I0];simp only[aa];rw[if_pos (by simp;omega),V.get b h1];simp only[aa];rw[V.get2 b h1 c];rfl
end
abbrev Tok:=Int×Int×Int×Int
def ar (t:Tok):Int:=
 if t.1=1\/t.1=2 then (if t.2.1=0/\t.2.2.1=0/\t.2.2.2=0 then 0 else -1)
 else if t.1=3 then (if (0<=t.2.1/\t.2.1<=8)/\t.2.2.1=0/\t.2.2.2=0 then 0 else -1)
 else if t.1=4\/t.1=5 then (if t.2.1=0/\t.2.2.1=0/\t.2.2.2=0 then 2 else -1)
 else if t.1=6 then (if t.2.1=0/\t.2.2.1=0/\t.2.2.2=0 then 1 else -1)
 else if t.1=7 then (if t.2.1=0/\(0<=t.2.2.1/\t.2.2.1<=t.2.2.2)/\(1<=t.2.2.2/\t.2.2.2<=3) then 1 else -1)
 else -1
theorem SV (x:Int):nk x=some (decide (0<=x/\x<=8)):=by unfold nk;rw[E5];rfl
theorem SX (x:Int):k9 x=some (decide (0<=x/\x<=8)):=by unfold k9;rw[I0];rfl
theorem abY (t:Tok):oV t=some (ar t):=by
 obtain ⟨k,l,i,h⟩:=t;unfold oV ar;simp only[SV,E5,aa];by_cases d:k=1
 ·subst d;simp;grind
 by_cases e:k=2
 ·subst e;simp;grind
 by_cases f:k=3
 ·subst f;simp;grind
 by_cases a:k=4
 ·subst a;simp;grind
 by_cases g:k=5
 ·subst g;simp;grind
 by_cases b:k=6
 ·subst b;simp;grind
 by_cases c:k=7
 ·subst c;simp;grind
 simp[d,e,f,a,g,b,c]
theorem Zb (t:Tok):ru t=some (decide (0<=ar t)):=by
 obtain ⟨k,l,e,d⟩:=t;unfold ru ar;simp only[SX,I0,aa];by_cases i:k=1
 ·subst i;simp;grind
 by_cases j:k=2
 ·subst j;simp;grind
 by_cases m:k=3
 ·subst m;simp only[];by_cases a:0<=l/\l<=8 <;> by_cases b:e=0 <;> by_cases c:d=0 <;> simp[a,b,c]
 by_cases f:k=4
 ·subst f;simp;grind
 by_cases n:k=5
 ·subst n;simp;grind
 by_cases g:k=6
 ·subst g;simp;grind
 by_cases h:k=7
 ·subst h;simp only[];by_cases a:l=0 <;> by_cases b:0<=e/\e<=d <;> by_cases c:1<=d/\d<=3 <;> simp[a,b,c]
 simp[i,j,m,f,n,g,h]
theorem xk (t:Tok): -1<=ar t/\ar t<=2:=by
 unfold ar;grind
theorem mQ {t:Tok} (h:0<=ar t):(ar t=2/\(t.1=4\/t.1=5))\/(ar t=1/\(t.1=6\/t.1=7))\/(ar t=0/\(t.1=1\/t.1=2\/t.1=3)):=by
 unfold ar at h⊢;grind
theorem BX {t:Tok} (h:0<=ar t) (k:t.1=7):(0<=t.2.2.1/\t.2.2.1<=t.2.2.2)/\(1<=t.2.2.2/\t.2.2.2<=3):=by
 unfold ar at h;grind
mutual
def flat:Tr Tok->List Tok
 | .nil=>[]
 | .node t ks=>kX ks++ [t]
def kX:List (Tr Tok)->List Tok
 | [] =>[]
 | k::ks=>flat k++kX ks
end
inductive WT:Tr Tok->Prop
 | node {t:Tok} {ks:List (Tr Tok)} :ar t=(ks.length:Int)->(∀k,k∈ks->WT k)->WT (.node t ks)
theorem qZ: ∀(a b:List (Tr Tok)),kX (a++b)=kX a++kX b
 | [],b=>rfl
 | k::a,b=>by rw[List.cons_append,kX,kX,qZ a b,aC]
theorem nG (x:Tr Tok):kX [x] =flat x:=by rw[kX,kX,List.append_nil]
theorem Pv (x y:Tr Tok):kX [x,y] =flat x++flat y:=by rw[kX,nG]
theorem WT.cases {x:Tr Tok} (h:WT x):(∃t,x= .node t [] /\ar t=0)\/(∃t a,x= .node t [a] /\ar t=1/\WT a)\/ ∃t a b,x= .node t [a,b] /\ar t=2/\WT a/\WT b:=by
 cases h with
 | @node t e c d =>
  have:=(xk t).2
  match e,c,d with
  | [],c,d=>exact .inl ⟨t,rfl,c⟩
  | [a],c,d=>exact .inr (.inl ⟨t,a,rfl,c,d a (by simp)⟩)
  | [a,b],c,d=>exact .inr (.inr ⟨t,a,b,rfl,c,d a (by simp),d b (by simp)⟩)
  | _::_::_::_,c,d=>simp at c;omega
theorem WT.ind {p:Tr Tok->Prop} (f: ∀t,ar t=0->p (.node t [])) (h1: ∀t a,ar t=1->WT a->p a->p (.node t [a])) (d: ∀t a b,ar t=2->WT a->WT b->p a->p b->p (.node t [a,b])) {x:Tr Tok} (h:WT x):p x:=by
 induction h with
 | @node t g e k c =>
  have:=(xk t).2
  match g,e,k,c with
  | [],e,k,c=>exact f t e
  | [a],e,k,c=>exact h1 t a e (k a (by simp)) (c a (by simp))
  | [a,b],e,k,c=>exact d t a b e (k a (by simp)) (k b (by simp)) (c a (by simp)) (c b (by simp))
  | _::_::_::_,e,_,_=>simp at e;omega
theorem E6 (t:Tok):flat (.node t [])= [t]:=by rw[flat,kX];rfl
theorem CZ (t:Tok) (a:Tr Tok):flat (.node t [a])=flat a++ [t]:=by rw[flat,nG]
theorem xl (t:Tok) (a b:Tr Tok):flat (.node t [a,b])=(flat a++flat b)++ [t]:=by rw[flat,Pv]
theorem WT.pos {x:Tr Tok} (h:WT x):1<=(flat x).length:=by
 cases h with
 | node b a=>rw[flat];simp
def stp (s:List (Tr Tok)) (t:Tok):Option (List (Tr Tok)):=if ar t<0\/(s.length:Int)<ar t then none else some (s.take (s.length - (ar t).toNat)++ [.node t (s.drop (s.length - (ar t).toNat))])
def run:List (Tr Tok)->List Tok->Option (List (Tr Tok))
 | s,[] =>some s
 | s,t::l=>(stp s t).bind fun s'=>run s' l
theorem E7: ∀(a:List Tok) {b:List Tok} {s:List (Tr Tok)},run s (a++b)=(run s a).bind fun c=>run c b
 | [],b,s=>rfl
 | t::a,b,s=>by
  rw[List.cons_append,run,run];cases stp s t with
  | none=>rfl
  | some c=>exact E7 a
theorem xm {a:List Tok} {t:Tok} {s:List (Tr Tok)} :run s (a++ [t])=(run s a).bind fun b=>stp b t:=by
 rw[E7];congr 1;funext b;rw[run];cases stp b t <;> rfl
theorem UE: ∀ {l:List Tok} {s b:List (Tr Tok)},run s l=some b->(∀k,k∈s->WT k)->(∀k,k∈b->WT k)/\kX b=kX s++l
 | [],s,b,h,hs=>by
  obtain rfl:=ae h;exact ⟨hs,by simp⟩
 | t::l,s,b,h,hs=>by
  rw[run] at h;unfold stp at h;by_cases c:ar t<0\/(s.length:Int)<ar t
  ·rw[if_pos c] at h;cases h
  ·rw[if_neg c] at h;have d:(s.drop (s.length - (ar t).toNat)).length=(ar t).toNat:=by rw[bP];omega
   obtain ⟨e,f⟩:=UE (show run _ l=some b from h) fun k a=>by
    rcases aG a with a | a
    ·exact hs k (List.mem_of_mem_take a)
    ·obtain rfl:=ak a;exact .node (by rw[d];omega) fun k a=>hs k (List.mem_of_mem_drop a)
   refine ⟨e,?_⟩;rw[f,qZ,nG,flat,<-aC,<-qZ,List.take_append_drop];simp
theorem SY {x:Tr Tok} (h:WT x): ∀s,run s (flat x)=some (s++ [x]):=by
 refine WT.ind (p:=fun x=> ∀s,run s (flat x)=some (s++ [x])) ?_ ?_ ?_ h
 ·intro t e s;rw[E6,run,stp,if_neg (by omega),e];simp[run]
 ·intro t a e _ c s;rw[CZ,xm,c];show stp (s++ [a]) t=_;rw[stp,if_neg (by simp;omega),e];simp
 ·intro t a b e _ _ c d s;rw[xl,xm,E7,c];show ((run (s++ [a]) (flat b)).bind fun f=>stp f t)=_;rw[d];show stp (s++ [a] ++ [b]) t=_;rw[stp,if_neg (by simp;omega),e]
  have:(s++ [a] ++ [b]).length - (2:Int).toNat=s.length:=by simp
  rw[this];simp
def isX (e:List Tok):Bool:=match run [] e with
 | some [_] =>true
 | _=>false
theorem Kv {e:List Tok} (h:isX e=true): ∃x,run [] e=some [x] /\WT x/\flat x=e:=by
 unfold isX at h;split at h
 ·rename_i x b;obtain ⟨c,a⟩:=UE b (fun k d=>by cases d);refine ⟨x,b,c x (by simp),?_⟩;rw[nG] at a;rw[a];rfl
 ·cases h
theorem Pw {l:List Tok} : ∀ {s a:List (Tr Tok)},run s l=some a->a.length<=s.length+l.length:=by
 induction l with
 | nil=>intro s a h;obtain rfl:=ae h;simp
 | cons t l ih =>
  intro s a h;rw[run] at h;obtain ⟨e,b,c⟩:=Option.bind_eq_some_iff.1 h;have d:=ih c;unfold stp at b;split at b
  ·cases b
  ·obtain rfl:=ae b;simp only[az,aB,aH,aJ] at d⊢;omega
theorem BY {e:List Tok} {i:Nat} (h:i<e.length):e.take (i+1)=e.take i++ [nth e (i:Int)]:=by
 rw[List.take_succ_eq_append_getElem h,de h]
theorem Ae {e:List Tok} {i:Nat} (h:i<e.length) {a:List (Tr Tok)} (h1:run [] (e.take i)=some a) (b:stp a (nth e (i:Int))=none):run [] e=none:=by
 have:run [] (e.take (i+1))=none:=by rw[BY h,xm,h1];exact b
 rw[<-List.take_append_drop (i+1) e,E7,this];rfl
theorem SZ {e:List Tok} (r:e.length<=1048576):tU e=some (isX e):=by
 obtain ⟨o,j,m⟩:=b9 (f:=rr e) (fun i s=> ∃a,s=((a.length:Int),(i:Int))/\run [] (e.take i)=some a) (fun o=>(o= .ret false/\run [] e=none)\/ ∃a,o= .brk ((a.length:Int),(e.length:Int))/\run [] e=some a) e.length (s:=(0,0)) (by
  rintro i s p ⟨a,rfl,b⟩;have l:=Pw b;simp only[aJ,aB] at l;unfold rr;simp only[jX];by_cases c:i<e.length
  ·rw[if_pos (by simp;omega),au (by omega) (by omega)];simp only[aa];rw[abY];simp only[aa];have q:=xk (nth e (i:Int));by_cases g:ar (nth e (i:Int))<0
   ·refine .inr ⟨_,by rw[if_pos (by simpa using g)],(fun k e=>by cases e),.inl ⟨rfl,Ae c b ?_⟩⟩;rw[stp,if_pos (.inl g)]
   ·rw[if_neg (by simpa using g)];by_cases d:ar (nth e (i:Int))>(a.length:Int)
    ·refine .inr ⟨_,by rw[if_pos (by simpa using d)],(fun k e=>by cases e),.inl ⟨rfl,Ae c b ?_⟩⟩;rw[stp,if_pos (.inr d)]
    ·rw[if_neg (by simpa using d)];refine .inl ⟨c,_,rfl,a.take (a.length - (ar (nth e (i:Int))).toNat)++ [.node (nth e (i:Int)) (a.drop (a.length - (ar (nth e (i:Int))).toNat))],?_,?_⟩
     ·rw[bA (n:=(a.length:Int) - ar (nth e (i:Int))) (by omega) (by omega),bA (by omega) (by omega),af (by omega)];congr 1;simp only[az,aB,aH,aJ];omega
     ·rw[BY c,xm,b];show stp a _=_;rw[stp,if_neg (by omega)]
  ·obtain rfl:i=e.length:=by omega
   rw[List.take_of_length_le (by omega)] at b;exact .inr ⟨_,by rw[if_neg (by simp)],(fun k e=>by cases e),.inr ⟨a,rfl,b⟩⟩) ⟨[],rfl,rfl⟩ (kz (by omega))
 unfold tU;rcases m with ⟨rfl,h⟩ | ⟨a,rfl,h⟩
 ·rw[bg j];unfold isX;rw[h]
 ·rw[ah j];unfold isX;rw[h]
  match a with
  | [] =>rfl
  | [_] =>rfl
  | _::_::_=>simp;omega
theorem aa3 {t:Tok} (h:0<=ar t):(Option.bind ((if t.1==4 then (some (t.1==4)) else (some (t.1==5)):Option Bool)) (fun b=>if b then (some 2) else (Option.bind ((if t.1==6 then (some (t.1==6)) else (some (t.1==7)):Option Bool)) (fun a=>if a then (some 1) else (some 0)))):Option Int)=some (ar t):=by
 rcases mQ h with ⟨e,k | k⟩ | ⟨e,k | k⟩ | ⟨e,k | k | k⟩ <;> rw[e] <;> simp[k]
theorem W2 (t:Tok): ∃n:Int,(Option.bind ((if t.1==4 then (some (t.1==4)) else (some (t.1==5)):Option Bool)) (fun f=>if f then (some 2) else (Option.bind ((if t.1==6 then (some (t.1==6)) else (some (t.1==7)):Option Bool)) (fun e=>if e then (some 1) else (some 0)))):Option Int)=some n:=by
 by_cases a:t.1=4
 ·exact ⟨2,by simp[a]⟩
 by_cases d:t.1=5
 ·exact ⟨2,by simp[d]⟩
 by_cases b:t.1=6
 ·exact ⟨1,by simp[b]⟩
 by_cases c:t.1=7
 ·exact ⟨1,by simp[c]⟩
 exact ⟨0,by simp[a,d,b,c]⟩
def zM (e:List Tok):Tr Tok:=match run [] e with
 | some [x] =>x
 | _=>.nil
theorem E8 {e:List Tok} (u:e.length<=1048576):oE e=some (zM e):=by
 obtain ⟨o,g,m⟩:=b9 (f:=rv e) (fun i s=> ∃a,s=(a,(i:Int))/\run [] (e.take i)=some a) (fun o=>(o= .ret Tr.nil/\run [] e=none)\/ ∃a,o= .brk (a,(e.length:Int))/\run [] e=some a) e.length (s:=([],0)) (by
  rintro i s v ⟨a,rfl,b⟩;have r:=Pw b;simp only[aJ,aB] at r;unfold rv;simp only[jX];by_cases c:i<e.length
  ·rw[if_pos (by simp;omega),au (by omega) (by omega)];simp only[aa];have t:=xk (nth e (i:Int));by_cases l:ar (nth e (i:Int))<0
   ·obtain ⟨n,k⟩:=W2 (nth e (i:Int));rw[k];simp only[aa];rw[Zb];simp only[aa];refine .inr ⟨_,by rw[if_neg (by simp;omega)],(fun d e=>by cases e),.inl ⟨rfl,Ae c b ?_⟩⟩;rw[stp,if_pos (.inl l)]
   ·rw[aa3 (by omega)];simp only[aa];rw[Zb];simp only[aa];rw[if_pos (by simp;omega),bA (n:=(a.length:Int) - ar (nth e (i:Int))) (by omega) (by omega)];by_cases j:ar (nth e (i:Int))>(a.length:Int)
    ·refine .inr ⟨_,by rw[if_pos (by simp;omega)],(fun d e=>by cases e),.inl ⟨rfl,Ae c b ?_⟩⟩;rw[stp,if_pos (.inr j)]
    ·rw[if_neg (by simp;omega),show∀p:Prop,∀ [Decidable p],p->chk p=some () from fun p _ hp=>by unfold chk;rw[if_pos hp]]
     ·simp only[aa];have q:((a.length:Int) - ar (nth e (i:Int))).toNat=a.length - (ar (nth e (i:Int))).toNat:=by omega
      rw[q,ay (by simp;omega)];simp only[aa];rw[ay (by simp;omega)];simp only[aa,List.nil_append,af (show i<9223372036854775807 by omega)];refine .inl ⟨c,_,rfl,_,rfl,?_⟩;rw[BY c,xm,b];show stp a _=_;rw[stp,if_neg (by omega)]
     ·omega
  ·obtain rfl:i=e.length:=by omega
   rw[List.take_of_length_le (by omega)] at b;exact .inr ⟨_,by rw[if_neg (by simp)],(fun d e=>by cases e),.inr ⟨a,rfl,b⟩⟩) ⟨[],rfl,rfl⟩ (kz (by omega))
 unfold oE;rcases m with ⟨rfl,h⟩ | ⟨a,rfl,h⟩
 ·rw[bg g];unfold zM;rw[h]
 ·rw[ah g];unfold zM;rw[h]
  match a with
  | [] =>rfl
  | [x] =>rfl
  | _::_::_ =>
   simp only;rw[if_pos (by simp;omega)]
theorem uj {x:Tr Tok} (h:WT x):zM (flat x)=x:=by unfold zM;rw[SY h];rfl
theorem S4 {e:List Tok} (c:e.length<=1048576):tZ e=some (isX e):=by
 unfold tZ;rw[E8 c];simp only[aa];congr 1;by_cases h:isX e=true
 ·rw[h];obtain ⟨x,b,a,f⟩:=Kv h
  have:zM e=x:=by unfold zM;rw[b]
  rw[this];cases a with
  | node _ _=>rfl
 ·have:zM e= .nil:=by
   unfold zM;unfold isX at h;split
   ·rename_i x d;rw[d] at h;exact absurd rfl h
   ·rfl
  rw[this,Bool.eq_false_iff.2 h];rfl
theorem BZ {e:List Tok} (a:e.length<=1048576):jf e=some (decide (e.length<=24)&&isX e):=by
 unfold jf;rw[SZ a];by_cases c:e.length<=24
 ·rw[if_pos (by simp;omega)];simp[c]
 ·rw[if_neg (by simp;omega)];simp[c]
theorem I1 {e:List Tok} (a:e.length<=1048576):lL e=some (decide (e.length<=24)&&isX e):=by
 unfold lL;rw[S4 a];by_cases c:e.length<=24
 ·rw[if_pos (by simp;omega)];simp[c]
 ·rw[if_neg (by simp;omega)];simp[c]
theorem jE {p:Prop} [Decidable p] (h:p):chk p=some ():=by unfold chk;rw[if_pos h]
theorem W3 {A:List Tok} {x:Tr Tok} (J:WT x) (C:(A++flat x).length<=1000000):jg (A++flat x)=some (A.length:Int):=by
 obtain ⟨g,e,d,L,D,M⟩: ∃g,aq (mW (A++flat x)) aT (1,((A++flat x).length:Int))=some (.brk g)/\ ∃d:List (Tr Tok),d= [] /\g.2=(A.length:Int)/\True:=by
  obtain ⟨o,F,E⟩:=b9 (f:=mW (A++flat x)) (fun i s=> ∃d:List (Tr Tok),(∀k,k∈d->WT k)/\s=((d.length:Int),(((A++kX d).length:Nat):Int))/\i+(kX d).length=(flat x).length/\(A++flat x).take (A++kX d).length=A++kX d) (fun o=> ∃g,o= .brk g/\g.2=(A.length:Int)) (flat x).length (s:=(1,((A++flat x).length:Int))) (by
   rintro i s K ⟨d,B,rfl,m,j⟩;unfold mW;simp only[jX];rcases List.eq_nil_or_concat d with rfl | ⟨a,y,rfl⟩
   ·refine .inr ⟨_,by rw[if_neg (by simp)],(fun g e=>by cases e),_,rfl,?_⟩;simp[kX]
   ·have I:=B y (by simp);cases I with
    | @node t c w v =>
     have z:kX (a++ [.node t c])=kX (a++c)++ [t]:=by rw[qZ,nG,flat,qZ,aC]
     rw[List.concat_eq_append,z] at m j⊢;simp only[az,aH,aJ] at m j C⊢;rw[if_pos (by simp <;> omega)];have u:i64.wrap (((A.length+((kX (a++c)).length+1):Nat):Int) - 1)=((A.length+(kX (a++c)).length:Nat):Int):=by
      rw[bA (by omega) (by omega)];omega
     have q:nth (A++flat x) ((A.length+(kX (a++c)).length:Nat):Int)=t:=by
      have r:A.length+(kX (a++c)).length<(A++flat x).length:=by rw[az];omega
      have p:=congrArg (fun l:List Tok=>l[A.length+(kX (a++c)).length]?) j;rw[List.getElem?_take_of_lt (by omega),List.getElem?_eq_getElem r,<-aC,List.getElem?_append_right (by rw[az];omega),az] at p;rw[de r];simpa using p
     rw[u,au (by omega) (by simp only[az];omega),q];simp only[aa];rw[abY,w];simp only[aa];have G:(c.length:Int)<=2:=by rw[<-w];exact (xk t).2
     have H:a.length<=(kX (a++c)).length+1000000:=by
      have: ∀l:List (Tr Tok),(∀k,k∈l->WT k)->l.length<=(kX l).length:=by
       intro l;induction l with
       | nil=>intro _;simp
       | cons k l ih =>
        intro h;have w:=(h k (by simp)).pos;have v:=ih fun k b=>h k (by simp[b]);rw[kX];simp only[aH,az];omega
      have:=this a fun k b=>B k (by simp[b])
      rw[qZ,az];omega
     refine .inl ⟨by omega,_,rfl,a++c,fun k b=>?_,?_,by omega,?_⟩
     ·rcases aG b with b | b
      ·exact B k (by simp[b])
      ·exact v k b
     ·rw[bA (n:=((a.length+1:Nat):Int) - 1) (by omega) (by omega),bA (by omega) (by omega)];congr 1
      (simp only[az]) <;> omega
     ·have p:=congrArg (List.take (A++kX (a++c)).length) j;rw[List.take_take,Nat.min_eq_left (by rw[az];omega),<-aC,List.take_left] at p;rw[az] at p;exact p) ⟨[x],fun k b=>by (obtain rfl:=ak b;exact J),by rw[nG];rfl,by rw[nG];omega,by rw[nG,List.take_length]⟩ (kz (by rw[az] at C;omega))
  obtain ⟨g,rfl,v⟩:=E;exact ⟨g,F,[],rfl,v,trivial⟩
 unfold jg;rw[ah e,D]
instance trInh {α:Type} :Inhabited (Tr α):=⟨.nil⟩
def szX:Tr Tok->Int
 | .nil=>0
 | .node t ks=>min (szL t 1 ks) 100000
where szL (t:Tok) (acc:Int):List (Tr Tok)->Int
 | [] =>acc
 | k::ks=>szL t (acc+(if t.1=7 then (szX k+3)*t.2.2.2 else szX k)) ks
theorem nH {x:Tr Tok} (h:WT x):1<=szX x/\szX x<=100000:=by
 refine WT.ind (p:=fun x=>1<=szX x/\szX x<=100000) ?_ ?_ ?_ h
 ·intro t _;show 1<=min (1:Int) 100000/\min (1:Int) 100000<=100000;omega
 ·intro t a e _ f;show 1<=min ((1:Int)+(if t.1=7 then (szX a+3)*t.2.2.2 else szX a)) 100000/\min ((1:Int)+(if t.1=7 then (szX a+3)*t.2.2.2 else szX a)) 100000<=100000;split
  ·rename_i k;have g:=BX (show 0<=ar t by omega) k
   have:0<=(szX a+3)*t.2.2.2:=Int.mul_nonneg (by omega) (by omega)
   omega
  ·omega
 ·intro t a b e _ _ d c;have k:t.1≠7:=by
   grind[mQ,ar]
  show 1<=min ((1:Int)+(if t.1=7 then (szX a+3)*t.2.2.2 else szX a)+(if t.1=7 then (szX b+3)*t.2.2.2 else szX b)) 100000/\min ((1:Int)+(if t.1=7 then (szX a+3)*t.2.2.2 else szX a)+(if t.1=7 then (szX b+3)*t.2.2.2 else szX b)) 100000<=100000;omega
theorem Hj {a h:Int} (h1:1<=a/\a<=100000) (d:1<=h/\h<=3):i64.wrap ((i64.wrap (a+3))*h)=(a+3)*h:=by
 have b:0<=(a+3)*h:=Int.mul_nonneg (by omega) (by omega);have c:(a+3)*h<=100003*3:=Int.mul_le_mul (by omega) (by omega) (by omega) (by omega);grind[bA]
theorem Px {a h:Int} (h1:1<=a/\a<=100000) (d:1<=h/\h<=3):0<=(a+3)*h/\(a+3)*h<=300009:=by
 have b:0<=(a+3)*h:=Int.mul_nonneg (by omega) (by omega);have c:(a+3)*h<=100003*3:=Int.mul_le_mul (by omega) (by omega) (by omega) (by omega);omega
theorem sf {t:Tok} {a:List (Tr Tok)} :Tr.get (.node t a)=some (t,a):=rfl
theorem yA {f:Tr Tok->Option Int} {t:Tok} {a:List (Tr Tok)} {i:Nat} {acc:Int} (hi:i<a.length) (d:f (nth a (i:Int))=some (szX (nth a (i:Int)))) (g:WT (nth a (i:Int))) (h:0<=ar t) (j:0<=acc/\acc<=1000000) (e:i<=1000000) :
  dL f (.node t a) (t,a) (acc,(i:Int))=some (.nxt (acc+(if t.1=7 then (szX (nth a (i:Int))+3)*t.2.2.2 else szX (nth a (i:Int))),((i+1:Nat):Int))):=by
 unfold dL;simp only[sf];have c:=nH g;rw[if_pos (by grind),au (by omega) (by omega)];simp only[aa];by_cases k:t.1=7
 ·have b:=BX h k;have l:=Px c b.2;rw[if_pos (by grind),if_pos k,d];simp only[aa];rw[Hj c b.2,bA (by omega) (by omega),af (by omega)]
 ·rw[if_neg (by grind),if_neg k,d];simp only[aa];rw[bA (by omega) (by omega),af (by omega)]
theorem Af {α:Type} [Inhabited α] {a:α} {l:List α} :nth (a::l) ((0:Nat):Int)=a:=rfl
theorem Py {α:Type} [Inhabited α] {a b:α} {l:List α} :nth (a::b::l) ((1:Nat):Int)=b:=rfl
theorem W4 {x:Tr Tok} (h:WT x): ∀n,(flat x).length<=n->cZ n x=some (szX x):=by
 refine WT.ind (p:=fun x=> ∀n,(flat x).length<=n->cZ n x=some (szX x)) ?_ ?_ ?_ h
 ·intro t e n c
  match n,c with
  | n+1,_ =>
   rfl
 ·intro t a e d m n c;rw[CZ,az] at c
  match n,c with
  | n+1,c =>
   rw[cZ];simp[sf,aa];have l:aq (dL (cZ n) (.node t [a]) (t,[a])) aT (1,0)=some (.brk (szX.szL t 1 [a],1)):=aO (f:=dL (cZ n) (.node t [a]) (t,[a])) (fun i=>(szX.szL t 1 ([a].take i),(i:Int))) 1 (fun i q=>by
    obtain rfl:i=0:=by omega
    exact yA (acc:=1) (i:=0) (by simp) (m n (by grind)) d (by omega) (by omega) (by omega)) (by rfl) (by unfold aT;omega)
   rw[ah l]
   rfl
 ·intro t a b e d o j g n c;rw[xl,az,az] at c
  match n,c with
  | n+1,c =>
   have r:=nH d;have k:t.1≠7:=by
    grind[mQ,ar]
   rw[cZ];simp[sf,aa];have l:aq (dL (cZ n) (.node t [a,b]) (t,[a,b])) aT (1,0)=some (.brk (szX.szL t 1 [a,b],2)):=aO (f:=dL (cZ n) (.node t [a,b]) (t,[a,b])) (fun i=>(szX.szL t 1 ([a,b].take i),(i:Int))) 2 (fun i q=>by
    have:i=0\/i=1:=by omega
    rcases this with rfl | rfl
    ·exact yA (acc:=1) (i:=0) (by simp) (j n (by grind)) d (by omega) (by omega) (by omega)
    ·exact yA (acc:=1+(if t.1=7 then (szX a+3)*t.2.2.2 else szX a)) (i:=1) (by simp) (g n (by grind)) o (by omega) (by omega) (by omega)) (by rfl) (by unfold aT;omega)
   rw[ah l]
   rfl
theorem kM {A:List Tok} {t:Tok} (h:A.length<=1000000):aP (A++ [t]) (i64.wrap (((A++ [t]).length:Int) - 1))=some t/\i64.wrap (((A++ [t]).length:Int) - 1)=(A.length:Int):=by
 have e:i64.wrap (((A++ [t]).length:Int) - 1)=(A.length:Int):=by
  rw[bA (by omega) (by grind)];simp only[az,aH,aJ];omega
 grind[au,az,aH,aJ,de]
theorem abZ {t:Tok} (h:ar t=2):(if t.1==4 then (some (t.1==4)) else (some (t.1==5)):Option Bool)=some true:=by
 grind[mQ,ar]
theorem S5 {t:Tok} (h:ar t=1\/ar t=0):(if t.1==4 then (some (t.1==4)) else (some (t.1==5)):Option Bool)=some false:=by
 rcases mQ (show 0<=ar t by omega) with ⟨e,k⟩ | ⟨e,k | k⟩ | ⟨e,k | k | k⟩
 ·omega
 all_goals simp[k]
theorem Zc {t:Tok} (h:ar t=0):(t.1==6)=false/\(t.1==7)=false:=by
 grind[mQ,ar]
theorem Pz {t:Tok} (h:ar t=1):((t.1==6)=true/\t.1=6)\/((t.1==6)=false/\(t.1==7)=true/\t.1=7):=by
 grind[mQ,ar]
theorem xn {a b:Tr Tok} {t:Tok} (d:WT b) (c:((flat a++flat b)++ [t]).length<=1000000) :
  (((flat a++flat b)++ [t]).take ((((flat a++flat b).length:Nat):Int)).toNat)=flat a++flat b /\
  jg (flat a++flat b)=some (((flat a).length:Nat):Int) /\
  (((flat a++flat b)++ [t]).take ((((flat a).length:Nat):Int)).toNat)=flat a /\
  (flat a++flat b).drop ((((flat a).length:Nat):Int)).toNat=flat b:=by
 grind[W3,az,aH,aJ,Int.toNat_natCast,List.take_left,aC,List.drop_left]
theorem UF {x:Tr Tok} (h:WT x): ∀n,(flat x).length<=n->(flat x).length<=1000000->fp n (flat x)=some (szX x):=by
 refine WT.ind (p:=fun x=> ∀n,(flat x).length<=n->(flat x).length<=1000000->fp n (flat x)=some (szX x)) ?_ ?_ ?_ h
 ·intro t e n c d;rw[E6] at c d⊢
  match n,c with
  | n+1,_ =>
   have s:=Zc e;rw[fp]
   have:=(kM (A:=[]) (t:=t) (by simp)).1
   rw[List.nil_append] at this;rw[this];simp only[aa];rw[S5 (.inr e)];simp[aa,s.1,s.2,Bool.false_eq_true,if_false]
   rfl
 ·intro t a e g y n c d;rw[CZ] at c d⊢;simp[az,aH,aJ] at c d
  match n,c with
  | n+1,c =>
   have m:=nH g;rw[fp];have ⟨l,f⟩:=kM (A:=flat a) (t:=t) (by omega);rw[l];simp only[aa];rw[S5 (.inl e)];simp only[aa,Bool.false_eq_true,if_false];rw[f,Int.toNat_natCast,List.take_left,jE (by grind)];simp only[aa];rw[y n (by omega) (by omega)];simp only[aa];rcases Pz e with ⟨o,u⟩ | ⟨o,u,v⟩
   ·rw[if_pos o,bA (by omega) (by omega)];show some (min 100000 (szX a+1))=some (min ((1:Int)+(if t.1=7 then (szX a+3)*t.2.2.2 else szX a)) 100000);grind
   ·have q:=BX (show 0<=ar t by omega) v;have F:=Px m q.2;rw[if_neg (by grind),if_pos u,Hj m q.2,bA (by omega) (by omega)];show some (min 100000 ((szX a+3)*t.2.2.2+1))=some (min ((1:Int)+(if t.1=7 then (szX a+3)*t.2.2.2 else szX a)) 100000);grind
 ·intro t a b e g r j i n c d;rw[xl] at c d⊢;have ⟨w,C,z,D⟩:=xn (a:=a) (t:=t) r d;simp[az,aH,aJ] at c d
  match n,c with
  | n+1,c =>
   have B:=nH g;have E:=nH r;have k:t.1≠7:=by
    rcases mQ (show 0<=ar t by omega) with ⟨_,k⟩ | ⟨k,_⟩ | ⟨k,_⟩ <;> omega
   rw[fp];have ⟨l,f⟩:=kM (A:=flat a++flat b) (t:=t) (by grind);rw[l];simp only[aa];rw[abZ e];rw[f,w,C,jE (by grind)];simp only[aa];rw[jE (by grind),z,D];rw[j n (by omega) (by omega),jE (by simp[az,aH,aJ];omega)];rw[i n (by omega) (by omega)];simp only[aa];rw[bA (n:=szX a+szX b) (by omega) (by omega),bA (by omega) (by omega)];show some (min 100000 (szX a+szX b+1))=some (min ((1:Int)+(if t.1=7 then (szX a+3)*t.2.2.2 else szX a)+(if t.1=7 then (szX b+3)*t.2.2.2 else szX b)) 100000);grind
def S6:Tr Tok:=.node (2,0,0,0) []
def Mo (x:Tr Tok):Nat->Int->Tr Tok
 | 0,_=>S6
 | h+1,low=>if 0<low then .node (4,0,0,0) [x,Mo x h (max 0 (low - 1))] else .node (5,0,0,0) [.node (4,0,0,0) [x,Mo x h (max 0 (low - 1))],S6]
mutual
def yB:Tr Tok->Tr Tok
 | .nil=>.nil
 | .node t ks=>if t.1=7 then Mo ((Zd ks).headD .nil) t.2.2.2.toNat t.2.2.1 else .node t (Zd ks)
def Zd:List (Tr Tok)->List (Tr Tok)
 | [] =>[]
 | k::ks=>yB k::Zd ks
end
theorem ar4:ar (4,0,0,0)=2:=by decide
theorem ar5:ar (5,0,0,0)=2:=by decide
theorem ar2:ar (2,0,0,0)=0:=by decide
theorem PA:WT S6:=.node ar2 fun k a=>by cases a
theorem B0:flat S6= [(2,0,0,0)]:=E6 _
theorem WT.two {t:Tok} {a b:Tr Tok} (h:ar t=2) (d:WT a) (c:WT b):WT (.node t [a,b]):=.node h fun k e=>by
 grind
theorem WT.one {t:Tok} {a:Tr Tok} (h:ar t=1) (b:WT a):WT (.node t [a]):=.node h fun k c=>by
 grind
theorem I2 {x:Tr Tok} (a:WT x): ∀(h:Nat) (low:Int),WT (Mo x h low)
 | 0,_=>PA
 | h+1,low=>by
  rw[Mo];split
  ·exact .two ar4 a (I2 a h _)
  ·exact .two ar5 (.two ar4 a (I2 a h _)) PA
theorem E9 (x:Tr Tok): ∀(h:Nat) (low:Int),(flat (Mo x h low)).length<=((flat x).length+3)*h+1
 | 0,_=>by rw[Mo,B0];simp
 | h+1,low=>by
  have a:=E9 x h (max 0 (low - 1));grind[Mo,xl,az,aH,aJ,Nat.mul_succ,B0]
theorem aar {t:Tok} {a:Tr Tok} :yB (.node t [a])=if t.1=7 then Mo (yB a) t.2.2.2.toNat t.2.2.1 else .node t [yB a]:=by rfl
theorem exp2 {t:Tok} {a b:Tr Tok} (h:t.1≠7):yB (.node t [a,b])= .node t [yB a,yB b]:=by simp_all[yB,if_neg,Zd]
theorem aas {t:Tok} (h:t.1≠7):yB (.node t [])= .node t []:=by rw[yB,if_neg h,Zd]
theorem no7 {t:Tok} (h:ar t=2\/ar t=0):t.1≠7:=by
 grind[mQ,ar]
theorem UG {x:Tr Tok} (h:WT x):WT (yB x):=by
 refine WT.ind (p:=fun x=>WT (yB x)) ?_ ?_ ?_ h
 ·intro t e;rw[aas (no7 (.inr e))];exact .node e fun k g=>by cases g
 ·intro t a e _ f;rw[aar];split
  ·exact I2 f _ _
  ·exact .one e f
 ·intro t a b e _ _ d c;rw[exp2 (no7 (.inl e))];exact .two e d c
theorem B1 {x:Tr Tok} (h:WT x):szX x<100000->((flat (yB x)).length:Int)<=szX x:=by
 refine WT.ind (p:=fun x=>szX x<100000->((flat (yB x)).length:Int)<=szX x) ?_ ?_ ?_ h
 ·intro t e _;rw[aas (no7 (.inr e)),E6];show (1:Int)<=min 1 100000;omega
 ·intro t a e g n d;have f:min ((1:Int)+(if t.1=7 then (szX a+3)*t.2.2.2 else szX a)) 100000<100000:=d;show _<=min ((1:Int)+(if t.1=7 then (szX a+3)*t.2.2.2 else szX a)) 100000;rw[aar];by_cases k:t.1=7
  ·have l:=BX (show 0<=ar t by omega) k;have m:szX a+3<=(szX a+3)*t.2.2.2:=by
    have:=Int.mul_le_mul_of_nonneg_left (c:=szX a+3) l.2.1 (by omega)
    omega
   have r:=E9 (yB a) t.2.2.2.toNat t.2.2.1;have q:(((flat (yB a)).length+3)*t.2.2.2.toNat:Int)<=(szX a+3)*t.2.2.2:=by
    rw[Int.toNat_of_nonneg (by omega)];exact Int.mul_le_mul_of_nonneg_right (by omega) (by omega)
   grind
  ·rw[if_neg k,CZ];grind
 ·intro t a b e g o j i d;have k:=no7 (.inl e);have f:min ((1:Int)+(if t.1=7 then (szX a+3)*t.2.2.2 else szX a)+(if t.1=7 then (szX b+3)*t.2.2.2 else szX b)) 100000<100000:=d;show _<=min ((1:Int)+(if t.1=7 then (szX a+3)*t.2.2.2 else szX a)+(if t.1=7 then (szX b+3)*t.2.2.2 else szX b)) 100000;grind[exp2,xl,az,aH,aJ]
theorem DN {x:Tr Tok} : ∀(h n:Nat) (low:Int),h<n->h<=3->0<=low->low<=3->nm n x low (h:Int)=some (Mo x h low)
 | 0,n+1,low,_,_,_,_=>by
  rfl
 | h+1,n+1,low,h1,h2,h3,h4=>by
  rw[nm,if_neg (by grind),bA (n:=low - 1) (by omega) (by omega),bA (n:=((h+1:Nat):Int) - 1) (by omega) (by omega)];rw[show ((h+1:Nat):Int) - 1=(h:Int) from by omega,DN h n (max 0 (low - 1)) (by omega) (by omega) (by omega) (by omega)];simp[aa];rw[Mo];by_cases c:0<low
  ·grind
  ·rw[if_neg (by grind),if_neg c];rfl
theorem B2 {a b:List Tok} {t:Tok} (h:a.length+b.length<=1000000):fj a b t=some ((a++b)++ [t]):=by
 unfold fj fN;rw[ay (by simp[az,aH,aJ];omega)];simp only[aa,List.nil_append];rw[ay (by omega)];simp only[aa];rw[ay (by simp[az,aH,aJ];omega)];rfl
theorem PB {x:Tr Tok} : ∀(h n:Nat) (low:Int),h<n->h<=3->0<=low->low<=3->(flat x).length<=100000->nl n (flat x) low (h:Int)=some (flat (Mo x h low))
 | 0,n+1,low,_,_,_,_,_=>by
  rfl
 | h+1,n+1,low,h1,h2,h3,h4,h5=>by
  rw[nl,if_neg (by grind),bA (n:=low - 1) (by omega) (by omega),bA (n:=((h+1:Nat):Int) - 1) (by omega) (by omega)];rw[show ((h+1:Nat):Int) - 1=(h:Int) from by omega,PB h n (max 0 (low - 1)) (by omega) (by omega) (by omega) (by omega) h5];simp only[aa];have b:=E9 x h (max 0 (low - 1));have a:((flat x).length+3)*h<=100003*3:=Nat.mul_le_mul (by omega) (by omega);rw[B2 (by omega),Mo];simp only[aa];by_cases c:0<low
  ·simp_all[if_pos,xl]
  ·rw[if_neg (by grind),if_neg c,xl,xl,B0];unfold qz;simp only[aa];rw[B2 (by simp[az,aH,aJ];omega)];rfl
theorem pz:1000000000000<=fH:=by rw[Q6];unfold aT;omega
theorem S7 {x:Tr Tok} (h:WT x): ∀n,(flat x).length<=n->cB n x=some (yB x):=by
 have w:=pz;refine WT.ind (p:=fun x=> ∀n,(flat x).length<=n->cB n x=some (yB x)) ?_ ?_ ?_ h
 ·intro t e n c;have k:=no7 (.inr e)
  match n,c with
  | n+1,_ =>
   rw[cB];simp[sf,aa];rw[if_neg (by grind),aas k]
   rfl
 ·intro t a e o s n c;rw[CZ,az] at c
  match n,c with
  | n+1,c =>
   have d:=s n (by grind);rw[cB,aar];simp only[sf,aa];rcases Pz e with ⟨q,m⟩ | ⟨q,m,l⟩
   ·have v:=aO (f:=eK (cB n) (t,[a])) (fun i=>((i:Int),t.1,t.2.1,t.2.2.1,t.2.2.2,[yB a].take i)) 1 (fun i u=>by
     obtain rfl:i=0:=by omega
     unfold eK;rw[if_pos (by simp),au (by omega) (by simp),Af];simp[aa];rw[d];rfl) (by rfl) (by unfold aT;omega)
    grind[ah]
   ·have y:=BX (show 0<=ar t by omega) l;rw[if_pos m,if_pos l,show aP [a] 0=some a from rfl];simp only[aa];rw[d];simp only[aa]
    have:=DN (x:=yB a) t.2.2.2.toNat fH t.2.2.1 (by omega) (by omega) (by omega) (by omega)
    rw[Int.toNat_of_nonneg (by omega)] at this;rw[this];rfl
 ·intro t a b e o z j g n c;rw[xl,az,az] at c;have k:=no7 (.inl e)
  match n,c with
  | n+1,c =>
   have d:=j n (by grind);have r:=g n (by grind);rw[cB,exp2 k];simp[sf,aa];have v:=aO (f:=eK (cB n) (t,[a,b])) (fun i=>((i:Int),t.1,t.2.1,t.2.2.1,t.2.2.2,[yB a,yB b].take i)) 2 (fun i u=>by
    have:i=0\/i=1:=by omega
    rcases this with rfl | rfl
    ·unfold eK;rw[if_pos (by simp),au (by omega) (by simp),Af];simp[aa];rw[d];rfl
    ·unfold eK;rw[if_pos (by simp),au (by omega) (by simp),Py];simp[aa];rw[r];rfl) (by rfl) (by unfold aT;omega)
   grind[ah]
theorem PC {x:Tr Tok} (h:WT x): ∀n out,(flat x).length<=n->out.length+(flat x).length<=1000000->cd n x out=some (out++flat x):=by
 refine WT.ind (p:=fun x=> ∀n out,(flat x).length<=n->out.length+(flat x).length<=1000000->cd n x out=some (out++flat x)) ?_ ?_ ?_ h
 ·intro t e n out c d;rw[E6] at c d⊢
  match n,c with
  | n+1,_ =>
   rw[cd];simp[sf,aa];have l:=aO (f:=da (cd n) (t,[])) (fun i=>((i:Int),out)) 0 (fun i k=>by omega) (by rfl) (by unfold aT;omega);grind[ah,ay]
 ·intro t a e m o n out c d;rw[CZ] at c d⊢;simp[az,aH,aJ] at c d
  match n,c with
  | n+1,c =>
   rw[cd];simp[sf,aa];have l:=aO (f:=da (cd n) (t,[a])) (fun i=>((i:Int),if i=0 then out else out++flat a)) 1 (fun i k=>by
    obtain rfl:i=0:=by omega
    unfold da;rw[if_pos (by simp),au (by omega) (by simp),Af];simp[aa,if_true];rw[o n _ (by omega) (by omega)];rfl) (by rfl) (by unfold aT;omega)
   grind[ah,ay]
 ·intro t a b e m q j g n out c d;rw[xl] at c d⊢;simp[az,aH,aJ] at c d
  match n,c with
  | n+1,c =>
   rw[cd];simp[sf,aa];have l:=aO (f:=da (cd n) (t,[a,b])) (fun i=>((i:Int),if i=0 then out else if i=1 then out++flat a else (out++flat a)++flat b)) 2 (fun i k=>by
    have:i=0\/i=1:=by omega
    rcases this with rfl | rfl
    ·unfold da;rw[if_pos (by simp),au (by omega) (by simp),Af];simp[aa,if_true];rw[j n _ (by omega) (by omega)];rfl
    ·unfold da;rw[if_pos (by simp),au (by omega) (by simp),Py];simp only[aa,if_true];rw[g n _ (by omega) (by grind)];rfl) (by rfl) (by unfold aT;omega)
   grind[ah,ay]
theorem Kw {x:Tr Tok} (h:WT x): ∀n,(flat x).length<=n->(flat x).length<=1000000->szX x<=50000->dx n (flat x)=some (flat (yB x)):=by
 have K:=pz;refine WT.ind (p:=fun x=> ∀n,(flat x).length<=n->(flat x).length<=1000000->szX x<=50000->dx n (flat x)=some (flat (yB x))) ?_ ?_ ?_ h
 ·intro t e n d f j;rw[E6] at d f⊢
  match n,d with
  | n+1,_ =>
   have M:=Zc e;rw[dx]
   have:=(kM (A:=[]) (t:=t) (by simp)).1
   rw[List.nil_append] at this;rw[this];simp only[aa];rw[S5 (.inr e)];simp_all[aa,Bool.false_eq_true,if_false,aas,no7,E6]
 ·intro t a e i D n d f j;have g:min ((1:Int)+(if t.1=7 then (szX a+3)*t.2.2.2 else szX a)) 100000<=50000:=j;rw[CZ] at d f⊢;simp[az,aH,aJ] at d f
  match n,d with
  | n+1,d =>
   have L:=nH i;have s:szX a<=50000:=by
    by_cases k:t.1=7
    ·rw[if_pos k] at g;have w:=BX (show 0<=ar t by omega) k;have F:szX a+3<=(szX a+3)*t.2.2.2:=by
      have:=Int.mul_le_mul_of_nonneg_left (c:=szX a+3) w.2.1 (by omega)
      omega
     omega
    ·omega
   have m:=B1 i (by omega);rw[dx];have ⟨u,l⟩:=kM (A:=flat a) (t:=t) (by omega);rw[u];simp only[aa];rw[S5 (.inl e)];simp only[aa,Bool.false_eq_true,if_false];rw[l,Int.toNat_natCast,List.take_left,jE (by grind)];simp only[aa];rw[D n (by omega) (by omega) s,aar];simp only[aa];rcases Pz e with ⟨y,z⟩ | ⟨y,z,v⟩
   ·rw[if_pos y,if_neg (by omega),B2 (by grind),CZ];simp
   ·have w:=BX (show 0<=ar t by omega) v;rw[if_neg (by grind),if_pos z,if_pos v];grind[PB,yB,fH,Int.toNat_of_nonneg]
 ·intro t a b e i r q o n d f j;have k:=no7 (.inl e);have g:min ((1:Int)+(if t.1=7 then (szX a+3)*t.2.2.2 else szX a)+(if t.1=7 then (szX b+3)*t.2.2.2 else szX b)) 100000<=50000:=j;rw[if_neg k,if_neg k] at g;rw[xl] at d f⊢;have ⟨B,H,E,I⟩:=xn (a:=a) (t:=t) r f;simp[az,aH,aJ] at d f
  match n,d with
  | n+1,d =>
   have G:=nH i;have J:=nH r;have m:=B1 i (by omega);have C:=B1 r (by omega);rw[dx];have ⟨u,l⟩:=kM (A:=flat a++flat b) (t:=t) (by grind);rw[u];simp only[aa];rw[abZ e];simp only[aa,if_true];rw[l,B,H,jE (by grind)];simp only[aa];rw[jE (by grind),E,I];simp only[aa];rw[q n (by omega) (by omega) (by omega),jE (by grind)];simp only[aa];rw[o n (by omega) (by omega) (by omega)];simp only[aa];rw[B2 (by omega),exp2 k,xl];rfl
def Kx (e:List Tok):List Tok×Bool:=
 if decide (e.length<=24)&&isX e then (if 5000<szX (zM e) then ([],false) else (if 400<(flat (yB (zM e))).length then ([],false) else (flat (yB (zM e)),true))) else ([],false)
theorem I3 {e:List Tok} (b:e.length<=1048576):iJ e=some (Kx e)/\na e=some (Kx e):=by
 have f:=pz;unfold iJ na Kx;rw[BZ b,I1 b];simp only[aa];by_cases c:(decide (e.length<=24)&&isX e)=true
 ·rw[if_pos c,if_pos c,if_pos c,E8 b];simp[aa];rw[aj] at c;obtain ⟨x,i,a,rfl⟩:=Kv c.2;have d:(flat x).length<=24:=by simpa using c.1
  rw[uj a,UF a fH (by omega) (by omega),W4 a fH (by omega)];by_cases h:5000<szX x
  ·grind
  ·have g:=B1 a (by omega);rw[Kw a fH (by omega) (by omega) (by omega),S7 a fH (by omega)];simp[aa];unfold ry;rw[PC (UG a) fH [] (by omega) (by grind)];grind
 grind
theorem PD {e:List Tok} (h:(Kx e).2=true): ∃y,WT y/\(Kx e).1=flat y/\(flat y).length<=400:=by
 unfold Kx at h⊢;split at h
 ·rename_i c;rw[aj] at c;obtain ⟨x,b,a,rfl⟩:=Kv c.2;rw[uj a] at h⊢;split at h
  ·cases h
  ·split at h
   ·cases h
   ·grind[UG]
 grind
def PE (out:List Bool) (t:Int):Bool:=decide (t≥0)&&nth out t
def hit (out:List Bool) (row:List Int):Bool:=row.any (PE out)
def zp (a:AutT) (out:List Bool) (s:Nat):List Bool:=if hit out (nth a.2.2 s) then out.set s true else out
def mc (a:AutT) (out:List Bool):Nat->List Bool
 | 0=>out
 | s+1=>zp a (mc a out s) s
def cnt (out:List Bool):Nat:=out.count true
theorem Ze (out:List Bool):cnt out<=out.length:=List.count_le_length
theorem Ky {out:List Bool} {s:Nat} (h:s<out.length) (k:out[s] =true):out.set s true=out:=by
 refine List.ext_getElem (by simp) fun i b a=>?_;grind
theorem W5 {out:List Bool} {s:Nat} (h:s<out.length) (k:out[s] =false):cnt (out.set s true)=cnt out+1:=by
 unfold cnt;rw[List.count_set h];simp[k]
section
variable {a:AutT} {n:Nat}
theorem Fa (a:AutT) (out:List Bool) (s:Nat):(zp a out s).length=out.length:=by grind[zp]
theorem me (a:AutT) (out:List Bool): ∀s,(mc a out s).length=out.length
 | 0=>rfl
 | s+1=>by rw[mc,Fa,me a out s]
theorem zq {out:List Bool} {s:Nat} (h:s<out.length):(zp a out s=out/\ ¬(hit out (nth a.2.2 s)=true/\nth out s=false))\/(cnt (zp a out s)=cnt out+1/\hit out (nth a.2.2 s)=true/\nth out s=false):=by
 grind[zp,de,hit,nth,Ky,W5]
theorem yC {out:List Bool} : ∀s,s<=out.length->(mc a out s=out/\cnt (mc a out s)=cnt out)\/cnt out<cnt (mc a out s)
 | 0,_=>.inl ⟨rfl,rfl⟩
 | s+1,hs=>by
  have c:s<(mc a out s).length:=by rw[me];omega
  have b:=yC (out:=out) s (by omega);grind[mc,zq]
def it (a:AutT):Nat->List Bool
 | 0=>a.2.1
 | j+1=>mc a (it a j) a.2.1.length
theorem q7 (a:AutT): ∀j,(it a j).length=a.2.1.length
 | 0=>rfl
 | j+1=>by rw[it,me,q7 a j]
theorem UH (a:AutT) (j:Nat):cnt (it a j)<=a.2.1.length:=by grind[q7,Ze]
theorem I4 (a:AutT) (j:Nat):(it a (j+1)=it a j)\/cnt (it a j)<cnt (it a (j+1)):=by
 rcases yC (a:=a) (out:=it a j) a.2.1.length (by rw[q7];omega) with h | h
 ·exact .inl h.1
 ·exact .inr h
theorem Zf {j k:Nat} (h:it a (j+1)=it a j) (b:j<=k):it a k=it a j:=by
 induction b with
 | refl=>rfl
 | step _ ih=>rw[it,ih];exact h
theorem PF {j k:Nat} (h:it a (j+1)=it a j) (b:it a (k+1)=it a k):it a j=it a k:=by
 grind[Nat.le_total,Zf]
theorem W6 (a:AutT):it a (a.2.1.length+1)=it a a.2.1.length:=by
 have key: ∀j,it a (j+1)=it a j\/j+1<=cnt (it a (j+1)):=by
  intro j;induction j with
  | zero=>grind[I4]
  | succ j ih =>
   grind[I4,it]
 grind[UH]
def live (a:AutT):List Bool:=it a a.2.1.length
theorem vS (a:AutT):(live a).length=a.2.1.length:=q7 a _
theorem Kz {α:Type} [Inhabited α] {row:List α} {p:α->Bool} {k:Nat} (h:k<row.length):(row.take (k+1)).any p=((row.take k).any p || p (nth row (k:Int))):=by
 rw[List.take_succ_eq_append_getElem h,List.any_append,de h];simp
section
variable (V:VA a n) (hn:n<=1000000)
include V hn
theorem PG {out:List Bool} {s:Nat} (hs:s<n) (e:out.length=n):aq (mY a (out,(s:Int))) aT (out,0)=some (.brk (zp a out s,9)):=by
 have i:=V.rowAt (s:=s) (by omega) (by omega)
 have:=aO (f:=mY a (out,(s:Int))) (fun k=>(if ((nth a.2.2 (s:Int)).take k).any (PE out) then out.set s true else out,(k:Int))) 9 (fun k b=>by
  unfold mY;rw[if_pos (by grind),V.get (by omega) (by omega)];simp only[aa];rw[V.get2 (by omega) (by omega) b];rw[Kz (by omega),show nth (nth a.2.2 (s:Int)) (k:Int)=mv a s k from rfl];simp only[af (show k<9223372036854775807 by omega)];by_cases c:mv a s k≥0
  ·have h:=(V.mv (s:=s) (k:=k) (by omega) (by omega) b).2;by_cases q:((nth a.2.2 (s:Int)).take k).any (PE out)=true
   ·simp_all[if_true,Bool.true_or,au,aa,Int.toNat_natCast]
   ·simp[q,Bool.false_eq_true,if_false,Bool.false_or,PE];rw[au c (by rw[e];exact h),au (by omega) (by omega)];cases d:nth out (mv a s k) <;> simp[d,c]
  ·simp[PE,c]) (by rfl) (by unfold aT;omega)
 have g:(nth a.2.2 (s:Int)).take 9=nth a.2.2 (s:Int):=List.take_of_length_le (by omega);rw[g] at this;exact this
theorem Hk {out:List Bool} (c:out.length=n):aq (j8 a) aT (out,0)=some (.brk (mc a out n,(n:Int))):=by
 have b:=V.len;refine aO (f:=j8 a) (fun s=>(mc a out s,(s:Int))) n (fun s d=>?_) ?_ (kz (by omega))
 ·unfold j8;rw[if_pos (by grind),ah (PG V hn d (by rw[me];exact c)),af (by omega)]
  rfl
 simp_all[j8,if_neg]
theorem UI:mC a=some (live a):=by
 have b:=V.len;unfold mC;rw[ay (by grind)];have:=aO (f:=mZ a) (fun j=>(it a j,(j:Int))) n (fun j c=>by
  unfold mZ;rw[if_pos (by grind),ah (Hk V hn (by grind[q7])),af (by omega),it,b]) (by
  simp_all[mZ,if_neg]) (kz (by omega))
 exact (ah this).trans (by simp[live,b])
theorem PH {out:List Bool} {g:Bool} {s:Nat} (hs:s<n) (h:out.length=n):aq (eC (g,(s:Int),out) (nth a.2.2 (s:Int))) aT (g,0,out)=some (.brk (g || (hit out (nth a.2.2 (s:Int)) && !nth out (s:Int)),9,zp a out s)):=by
 have o:=V.rowAt (s:=s) (by omega) (by omega);have b:s<out.length:=by omega
 have:=aO (f:=eC (g,(s:Int),out) (nth a.2.2 (s:Int))) (fun k=>(g || (((nth a.2.2 (s:Int)).take k).any (PE out) && !nth out (s:Int)),(k:Int),if ((nth a.2.2 (s:Int)).take k).any (PE out) then out.set s true else out)) 9 (fun k e=>by
  unfold eC;rw[if_pos (by grind),V.get2 (by omega) (by omega) e];rw[Kz (by omega),show nth (nth a.2.2 (s:Int)) (k:Int)=mv a s k from rfl];simp only[af (show k<9223372036854775807 by omega)];by_cases c:mv a s k≥0
  ·have j:=(V.mv (s:=s) (k:=k) (by omega) (by omega) e).2;by_cases q:((nth a.2.2 (s:Int)).take k).any (PE out)=true
   ·simp[q,if_true,Bool.true_or];simp_all[nth,pX,au,aa,Int.toNat_natCast,if_true]
   ·simp[q,Bool.false_eq_true,if_false,Bool.false_or,PE,Bool.false_and,Bool.or_false];rw[au c (by rw[h];exact j),au (by omega) (by omega)];cases m:nth out (mv a s k) with
    | false=>simp[c]
    | true =>
     cases d:nth out (s:Int) with
     | false=>simp[c]
     | true =>
      rw[de b] at d;simp[c,Ky b d]
  ·simp[PE,c]) (by grind[eC]) (by unfold aT;omega)
 have i:(nth a.2.2 (s:Int)).take 9=nth a.2.2 (s:Int):=List.take_of_length_le (by omega);rw[i] at this;have l:(g || (((nth a.2.2 (s:Int)).take 0).any (PE out) && !nth out (s:Int)))=g:=by simp
 rw[l] at this;exact this
theorem Hl {out:List Bool} (i:out.length=n): ∃g,aq (eD a) aT (false,0,out)=some (.brk (g,(n:Int),mc a out n))/\(g=true↔cnt out<cnt (mc a out n)):=by
 have h:=V.nlen;obtain ⟨k,e,⟨g,rfl,c⟩⟩:=eW (f:=eD a) (fun s d=> ∃g,d=(g,(s:Int),mc a out s)/\(g=true↔cnt out<cnt (mc a out s))) n (by
  rintro s d j ⟨g,rfl,c⟩;have b:(mc a out s).length=n:=by rw[me];exact i
  unfold eD;simp only;rw[if_pos (by grind),V.get (by omega) (by omega)];simp only[aa];rw[ah (PH V hn j b),af (by omega)];refine ⟨_,rfl,_,rfl,?_⟩;grind[yC,zq,mc,id,absurd]) (by
  simp_all[eD,if_neg]) ⟨false,rfl,by simp[mc]⟩ (kz (by omega))
 exact ⟨g,e,c⟩
theorem Zg:fX a=some (live a):=by
 have c:=V.len;unfold fX;rw[ay (by grind)];obtain ⟨o,e,i,rfl,j⟩:=b9 (f:=jl a) (fun i s=> ∃b,s=(b,it a i)/\(b=true->i<=cnt (it a i))/\(b=false->it a (i+1)=it a i)) (fun o=> ∃i,o= .brk (false,it a i)/\it a (i+1)=it a i) (n+1) (s:=(true,a.2.1)) (by
  rintro i s j ⟨b,rfl,d,m⟩;unfold jl;cases b with
  | false=>grind
  | true =>
   have p:=UH a i;have d:=d rfl;have ⟨g,e,k⟩:=Hl V hn (out:=it a i) (by grind[q7]);have l:mc a (it a i) n=it a (i+1):=by rw[it,c]
   rw[l] at e k;refine .inl ⟨by omega,(g,it a (i+1)),by rw[if_pos rfl,ah e],g,rfl,fun h=>?_,fun h=>?_⟩
   ·grind
   grind[it,I4]) ⟨true,rfl,fun _=>Nat.zero_le _,fun h=>by cases h⟩ (kz (by omega))
 grind[ah,PF,W6,live]
end
end
def nothing:AutT:=(0,[false],[[-1,-1,-1,-1,-1,-1,-1,-1,-1]])
theorem PI:qf=some nothing:=by kernel_rfl
theorem PJ:vt=some nothing:=by kernel_rfl
theorem PK {n:Nat} (h:n<=1000000):iOk (n:Int)=true:=by
 have b:i64.min= -9223372036854775808:=by decide
 have a:i64.max=9223372036854775807:=by decide
 simp[iOk,Lit.wf,b,a,aj,decide_eq_true_eq];omega
theorem take_one {α:Type} [Inhabited α] {xs:List α} {k:Nat} (h:k<xs.length):xs.take (k+1)=xs.take k++ [nth xs (k:Int)]:=by
 rw[List.take_succ_eq_append_getElem h,de h]
theorem lr {α:Type} [Inhabited α] {xs ys:List α} (h:xs <+:ys) {i:Int} (a:0<=i) (h1:i<xs.length):nth ys i=nth xs i:=by
 obtain ⟨t,rfl⟩:=h;exact px a h1
structure NumOk {κ:Type} [DecidableEq κ] (nx:κ->List (Option κ)) (first:κ) (G:κ->Prop) (B:Nat):Prop where
 g0:G first
 gn: ∀x,G x-> ∀y,some y∈nx x->G y
 len: ∀x,G x->(nx x).length=9
 bound: ∀l:List κ,l.Nodup->(∀x∈l,G x)->l.length<=B
section
variable {κ:Type} [DecidableEq κ] [Inhabited κ] {nx:κ->List (Option κ)} {first:κ} {G:κ->Prop} {B:Nat}
theorem NumOk.le (H:NumOk nx first G B) (i:Nat):(bfS nx first i).length<=B:=H.bound _ (py i) (mb H.g0 H.gn i)
theorem NumOk.at (H:NumOk nx first G B) {i:Nat} (h:i<(bfS nx first i).length):G (nth (bfS nx first i) (i:Int)):=mb H.g0 H.gn i _ (bT (by omega) (by omega))
theorem mf {i:Nat} (h:i<(bfS nx first i).length):bfS nx first (i+1)=nbS (bfS nx first i) (nx (nth (bfS nx first i) (i:Int))):=by rw[E4 h,de h]
theorem xo {i:Nat} (h:i<(bfS nx first i).length):bfR nx first (i+1)=bfR nx first i++ [nbR (bfS nx first i) (nx (nth (bfS nx first i) (i:Int)))]:=by rw[xj h,de h]
theorem Ag {β:Type} {acc:κ->β} {i:Nat} (h:i<(bfS nx first i).length):((bfS nx first (i+1)).take (i+1)).map acc=((bfS nx first i).take i).map acc++ [acc (nth (bfS nx first i) (i:Int))]:=by
 have hp:=bU (nx:=nx) (first:=first) i;have a:=hp.length_le;have e:(bfS nx first (i+1)).take i=(bfS nx first i).take i:=by
  have ⟨t,b⟩:=hp;grind
 rw[take_one (by omega),aW,e,lr hp (by omega) (by omega)];rfl
def MapOf (M:List (κ×Int)) (l:List κ):Prop:=M.length=l.length/\ ∀x,M.lookup x=if x∈l then some (l.idxOf x:Int) else none
theorem MapOf.one (x:κ):MapOf [(x,0)] [x]:=by
 refine ⟨rfl,fun y=>?_⟩;grind
theorem MapOf.put {M:List (κ×Int)} {l:List κ} (h:MapOf M l) {x:κ} (a:x∉l):MapOf ((x,(l.length:Int))::M) (l++ [x]):=by
 refine ⟨by simp[h.1],fun y=>?_⟩;rw[List.lookup_cons];by_cases e:y=x
 ·grind
 ·simp[show (y==x)=false from by simp[e],h.2 y,List.mem_append,List.mem_singleton,e,or_false];grind
end
section
variable {nx:Int->List (Option Int)} {first:Int} {G:Int->Prop} {B:Nat}
theorem Hm {p3:Int->Int->Option (Int×Bool)} {l:List Int} {M:List (Int×Int)} {os:List (Option Int)} {acs:List Bool} {rws:List (List Int)} {i:Nat}
  (hi:i<l.length) (t:os.length=9) (v:MapOf M l) (m: ∀y,some y∈os->iOk y=true) (u: ∀k,(nbS l (os.take k)).length<=1000000)
  (hp: ∀(k:Nat) (o:k<9),∃j,p3 (nth l (i:Int)) (k:Int)=some (match nth os (k:Int) with | some y=>(y,true) | none=>(j,false))) :
  ∃d,aq (fu p3 (l,M,(i:Int),0,acs,rws)) aT (l,M,[],0)=some (.brk (nbS l os,d,nbR l os,9))/\MapOf d (nbS l os):=by
 obtain ⟨A,e,d,rfl,q⟩:=eW (f:=fu p3 (l,M,(i:Int),0,acs,rws)) (fun k s=> ∃d,s=(nbS l (os.take k),d,nbR l (os.take k),(k:Int))/\MapOf d (nbS l (os.take k))) 9 (by
  rintro k s o ⟨g,rfl,a⟩;have b:=mP l (os.take k);have p:=b.length_le;have n:=u k;have ⟨j,w⟩:=hp k o;have r:(nbR l (os.take k)).length<=9:=by rw[iM,aB];omega
  unfold fu;simp only;rw[if_pos (by grind),au (by omega) (by omega)];simp only[aa];rw[lr b (by omega) (by omega),w,take_one (by omega),xi,ui];simp only[aa,af (show k<9223372036854775807 by omega)];cases x:nth os (k:Int) with
  | none =>
   simp only[Bool.false_eq_true,if_false];rw[ay (by grind)];exact ⟨_,rfl,g,rfl,a⟩
  | some y =>
   have z:=m y (x ▸ bT (by omega) (by omega));rw[show chk (iOk y=true)=some () from by unfold chk;grind];rw[show lkM g y=_ from a.2 y];by_cases c:y∈nbS l (os.take k)
   ·simp only[c,if_true,Option.isSome_some,Option.getD_some,aa];rw[ay (by grind)];exact ⟨_,rfl,g,by rw[nT c];rfl,by grind[nT]⟩
   ·have h:QK g iOk iOk y ((nbS l (os.take k)).length:Int)=some ((y,((nbS l (os.take k)).length:Int))::g):=by
     unfold QK;rw[if_pos ⟨by have:=a.1;omega,z,PK n⟩]
    simp only[c,if_false,Option.isSome_none,Bool.false_eq_true,h,aa];rw[ay (by grind)];simp only[aa];rw[ay (by grind)];refine ⟨_,rfl,(y,((nbS l (os.take k)).length:Int))::g,?_,?_⟩
    ·grind[nU,nbI,qY]
    ·rw[nU c];exact a.put c) (by
  grind[fu]) (s:=(l,M,[],0)) ⟨M,rfl,v⟩ (by unfold aT;omega)
 grind
theorem Zh {most:Int} {p2:Int->Option Bool} {p3:Int->Int->Option (Int×Bool)} {acc:Int->Bool} (H:NumOk nx first G B) (D:B<=1000000) (m:(B:Int)<=most) (g: ∀x,G x->iOk x=true)
  (v: ∀x,G x->p2 x=some (acc x)) (t: ∀x (k:Nat),G x->k<9-> ∃j,p3 x (k:Int)=some (match nth (nx x) (k:Int) with | some y=>(y,true) | none=>(j,false))) :
  ∃N,bfE nx first N/\fO first most p2 p3=some ((0,(bfS nx first N).map acc,bfR nx first N),true):=by
 have ⟨N,w,d⟩:=UD (nx:=nx) (first:=first) (H.le);refine ⟨N,d,?_⟩;unfold fO;rw[show QK ([] :List (Int×Int)) iOk iOk first 0=some [(first,0)] from by unfold QK;rw[if_pos ⟨by simp,g _ H.g0,by decide⟩]];simp[aa];obtain ⟨A,e,n,rfl,b⟩:=eW (f:=cC most p2 p3) (fun i s=> ∃M,s=(bfS nx first i,M,(i:Int),0,((bfS nx first i).take i).map acc,bfR nx first i)/\MapOf M (bfS nx first i)) N (by
  rintro i s u ⟨M,rfl,o⟩;have a:=d.2 i u;have c:=H.at a;have p:=H.le (i+1);have ⟨n,e,b⟩:=Hm (p3:=p3) (l:=bfS nx first i) (M:=M) (os:=nx (nth (bfS nx first i) (i:Int))) (acs:=((bfS nx first i).take i).map acc) (rws:=bfR nx first i) a (H.len _ c) o (fun y z=>g y (H.gn _ c y z))
   (fun k=>by
    have:(nbS (bfS nx first i) ((nx (nth (bfS nx first i) (i:Int))).take k)).length<=B:=H.bound _ (tD (py i)) fun x h=>by
     rcases yy.1 h with h | h
     ·exact mb H.g0 H.gn i x h
     ·exact H.gn _ c x (List.mem_of_mem_take h)
    omega) (fun k r=>t _ k c r)
  unfold cC;rw[if_pos (by grind),ah e,<-mf a];rw[<-mf a] at b;have q:=(bU (nx:=nx) (first:=first) i).length_le;simp only;rw[if_neg (by grind),au (by omega) (by omega)];simp only[aa];rw[lr (bU i) (by omega) (by omega),v _ c];simp only[aa];have C:(bfR nx first i).length=i:=lq fun j E=>d.2 j (by omega);rw[ay (by simp;omega)];rw[ay (by simp;omega)];simp only[aa,af (show i<9223372036854775807 by omega)];exact ⟨_,rfl,n,by rw[Ag a,xo a],b⟩) (by
  rintro s ⟨M,rfl,o⟩;unfold cC;rw[if_neg (by have:=d.1;grind)]) (s:=([first],[(first,0)],0,0,[],[])) ⟨_,rfl,MapOf.one first⟩ (kz (by omega))
 rw[ah e];rw[List.take_of_length_le (by have:=d.1;omega)]
end
theorem UJ {l:List Int} {x:Int} (h:l.length<=9223372036854775807):oX l x=some (if x∈l then (l.idxOf x:Int) else -1):=by
 unfold oX;have ⟨o,e,d⟩:=b9 (f:=qe l x) (fun i s=>s=(i:Int)/\x∉l.take i) (fun o=>(x∈l/\o= .ret (l.idxOf x:Int))\/(x∉l/\ ∃s,o= .brk s)) l.length (s:=0) (by
  rintro i s g ⟨rfl,a⟩;unfold qe;by_cases b:i<l.length
  ·rw[if_pos (by grind),au (by omega) (by omega)];simp[aa];by_cases c:nth l (i:Int)=x
   ·refine .inr ⟨_,by rw[if_pos (by grind)],(fun j e=>by cases e),.inl ?_⟩;have e:l=l.take i++(x::l.drop (i+1)):=by
     grind[de,List.drop_eq_getElem_cons,List.take_append_drop]
    grind
   ·refine .inl ⟨b,_,by rw[if_neg (by grind)],by grind[af],?_⟩;rw[take_one b,List.mem_append,List.mem_singleton];rintro (h | h)
    ·exact a h
    ·exact c h.symm
  simp_all[if_neg,List.take_of_length_le]) ⟨rfl,by simp⟩ (kz h)
 rcases d with ⟨a,rfl⟩ | ⟨a,s,rfl⟩
 ·rw[bg e,if_pos a]
 ·rw[ah e,if_neg a]
section
variable {a:AutT} {n:Nat} {c:List Int} {lv:List Bool} {nx:Int->List (Option Int)} {G:Int->Prop} {B:Nat} {acc:Int->Bool}
def good (n:Nat) (lv:List Bool) (r:Int):Prop:=0<=r/\r<n/\nth lv r=true
def yD (a:AutT) (c:List Int) (lv:List Bool) (r:Int):List (Option Int):=(List.range 9).map fun k=>if mv a r k≥0/\nth lv (mv a r k)=true then some (nth c (mv a r k)) else none
theorem KB {r:Int} {k:Nat} (b:k<9):nth (yD a c lv r) (k:Int)=if mv a r k≥0/\nth lv (mv a r k)=true then some (nth c (mv a r k)) else none:=by
 grind[yD,de]
def RepsOf (n:Nat) (lv:List Bool) (c:List Int) (rs l:List Int):Prop:=rs.length=l.length/\ ∀j:Nat,j<l.length->good n lv (nth rs j)/\nth c (nth rs j)=nth l (j:Int)
theorem RepsOf.snoc {rs l:List Int} (h:RepsOf n lv c rs l) {t:Int} (f:good n lv t):RepsOf n lv c (rs++ [t]) (l++ [nth c t]):=by
 refine ⟨by simp[h.1],fun j b=>?_⟩;by_cases e:j<l.length
 ·rw[px (by omega) (by have:=h.1;omega),px (by omega) (by omega)];exact h.2 j e
 ·have d:nth (rs++ [t]) (l.length:Int)=t:=by rw[de (by simp[h.1])];simp[<-h.1]
  grind[nth,de]
theorem PL (V:VA a n) (M:n<=1000000) (O:c.length=n) (L:lv.length=n) {l rs:List Int} {acs:List Bool} {rws:List (List Int)} {i:Nat} (hi:i<l.length) (I:RepsOf n lv c rs l) {os:List (Option Int)} (D:os.length=9)
  (J: ∀r,good n lv r->nth c r=nth l (i:Int)->yD a c lv r=os) (E: ∀k,(nbS l (os.take k)).length<=1000000) :
  ∃b,aq (iC a c lv (l,rs,(i:Int),0,acs,rws)) aT (l,rs,[],0)=some (.brk (nbS l os,b,nbR l os,9))/\RepsOf n lv c b (nbS l os):=by
 obtain ⟨N,e,b,rfl,H⟩:=eW (f:=iC a c lv (l,rs,(i:Int),0,acs,rws)) (fun k s=> ∃b,s=(nbS l (os.take k),b,nbR l (os.take k),(k:Int))/\RepsOf n lv c b (nbS l (os.take k))) 9 (by
  rintro k s w ⟨g,rfl,j⟩;have m:=mP l (os.take k);have z:=m.length_le;have K:=E k;have C:(nbR l (os.take k)).length<=9:=by rw[iM,aB];omega
  have A:=j.1;have ⟨⟨q,t,F⟩,y⟩:=j.2 i (by omega);rw[lr m (by omega) (by omega)] at y;have x:=J _ ⟨q,t,F⟩ y;have d:nth os (k:Int)=if mv a (nth g (i:Int)) k≥0/\nth lv (mv a (nth g (i:Int)) k)=true then some (nth c (mv a (nth g (i:Int)) k)) else none:=by
   rw[<-x];exact KB w
  have v:=V.mv (s:=nth g (i:Int)) (k:=k) q t w;unfold iC;simp only;rw[if_pos (by grind),au (xs:=g) (by omega) (by omega)];simp only[aa];rw[V.get q t];simp only[aa];rw[V.get2 q t w,take_one (by omega),xi,ui];simp only[aa,af (show k<9223372036854775807 by omega)];by_cases p:mv a (nth g (i:Int)) k≥0
  ·rw[if_pos (by grind),au (xs:=lv) p (by omega)];simp only[aa];by_cases o:nth lv (mv a (nth g (i:Int)) k)=true
   ·rw[if_pos ⟨p,o⟩] at d;rw[if_pos o,au (xs:=c) p (by omega),d];simp only[aa];rw[UJ (by omega)];simp only[aa];by_cases u:nth c (mv a (nth g (i:Int)) k)∈nbS l (os.take k)
    ·rw[if_pos u,if_neg (by simp)];simp only[aa];rw[ay (by grind)];exact ⟨_,rfl,g,by rw[nT u];rfl,by grind[nT]⟩
    ·rw[if_neg u,if_pos (by decide)];rw[ay (by grind)];rw[ay (by grind)];simp only[aa];rw[ay (by grind)];refine ⟨_,rfl,g++ [mv a (nth g (i:Int)) k],?_,?_⟩
     ·grind[nU,nbI,qY]
     ·rw[nU u];exact j.snoc ⟨p,v.2,o⟩
   ·rw[if_neg (fun h=>o h.2)] at d;rw[if_neg o,d];simp only[aa];rw[ay (by grind)];exact ⟨_,rfl,g,rfl,j⟩
  ·rw[if_neg (fun h=>p h.1)] at d;rw[if_neg (by grind),d];simp only[aa];rw[ay (by grind)];exact ⟨_,rfl,g,rfl,j⟩) (by
  grind[iC]) (s:=(l,rs,[],0)) ⟨rs,rfl,I⟩ (by unfold aT;omega)
 grind
theorem Zi (V:VA a n) (A:n<=1000000) (I:c.length=n) (t:lv.length=n) (hs:nth lv a.1=true) (H:NumOk nx (nth c a.1) G B) (O:B<=1000000)
  (K: ∀r,good n lv r->nx (nth c r)=yD a c lv r) (l: ∀r,good n lv r->acc (nth c r)=nth a.2.1 r) :
  ∃N,bfE nx (nth c a.1) N/\jN a c lv=some (0,(bfS nx (nth c a.1) N).map acc,bfR nx (nth c a.1) N):=by
 have ⟨N,L,o⟩:=UD (nx:=nx) (first:=nth c a.1) (H.le);refine ⟨N,o,?_⟩;have g:=V.start;unfold jN;rw[au g.1 (by omega)];simp[aa];rw[if_pos hs,au g.1 (by omega)];simp[aa];obtain ⟨M,e,m,rfl,q⟩:=eW (f:=kD a c lv) (fun i s=> ∃m,s=(bfS nx (nth c a.1) i,m,(i:Int),0,((bfS nx (nth c a.1) i).take i).map acc,bfR nx (nth c a.1) i)/\RepsOf n lv c m (bfS nx (nth c a.1) i)) N (by
  rintro i s J ⟨m,rfl,q⟩;have b:=o.2 i J;have u:=H.at b;have ⟨h,e,d⟩:=PL (acs:=((bfS nx (nth c a.1) i).take i).map acc) (rws:=bfR nx (nth c a.1) i) V A I t b q (os:=nx (nth (bfS nx (nth c a.1) i) (i:Int))) (H.len _ u) (fun r D e=>by grind) (fun k=>by
    have:(nbS (bfS nx (nth c a.1) i) ((nx (nth (bfS nx (nth c a.1) i) (i:Int))).take k)).length<=B:=H.bound _ (tD (py i)) fun x p=>by
     rcases yy.1 p with p | p
     ·exact mb H.g0 H.gn i x p
     ·exact H.gn _ u x (List.mem_of_mem_take p)
    omega)
  unfold kD;simp only;rw[if_pos (by grind),ah e];rw[<-mf b] at d;have F:=(bU (nx:=nx) (first:=nth c a.1) i).length_le;have C:=d.1;have ⟨⟨y,z,E⟩,w⟩:=d.2 i (by omega);rw[lr (bU i) (by omega) (by omega)] at w;rw[au (xs:=h) (by omega) (by omega)];simp only[aa];rw[V.acc y z,<-l _ ⟨y,z,E⟩,w];simp only[aa];have D:(bfR nx (nth c a.1) i).length=i:=lq fun j v=>o.2 j (by omega);rw[ay (by simp;omega)];rw[ay (by simp;omega)];simp only[aa,af (show i<9223372036854775807 by omega)];exact ⟨_,rfl,h,by rw[<-mf b,Ag b,xo b],d⟩) (by
  rintro s ⟨m,rfl,q⟩;unfold kD;rw[if_neg (by have:=o.1;grind)]) (s:=([nth c a.1],[a.1],0,0,[],[])) ⟨[a.1],rfl,rfl,fun j v=>by
   obtain rfl:j=0:=by simpa [bfS] using v
   exact ⟨⟨g.1,g.2,hs⟩,rfl⟩⟩ (kz (by omega))
 rw[ah e];rw[List.take_of_length_le (by have:=o.1;omega)]
theorem I5 (V:VA a n) (b:lv.length=n) (hs:nth lv a.1=false):jN a c lv=some nothing:=by
 have d:=V.start;simp_all[jN,au,aa,PI]
end
abbrev DO:=(List Int)×Int×Int×(List Int)×Bool
abbrev W7 (x:Int) (j:Nat):Bool:=(qp (n9 x (j:Int)) 1)==1
def S8 (F:List Int) (set m0:Int):Nat->Int
 | 0=>m0
 | i+1=>if W7 set (i+1) then orI (S8 F set m0 i) (nth F (i:Int)) else S8 F set m0 i
def pick (L:List Int) (m letter:Int):Nat->Int
 | 0=>0
 | i+1=>if nth L (i:Int)=letter/\W7 m i=true then orI (pick L m letter i) (vZ 1 ((i+1:Nat):Int)) else pick L m letter i
def aft (p:DO) (set letter:Int):Int:=pick p.1 (S8 p.2.2.2.1 set (if (qp set 1)==1 then p.2.1 else 0) p.2.2.2.1.length) letter p.1.length
def tE (p:DO) (set:Int):Bool:=if (qp set 1)==1 then (if p.2.2.2.2 then true else (qp (n9 set 1) p.2.2.1) !=0) else (qp (n9 set 1) p.2.2.1) !=0
theorem tF (i:Nat):chk (0<=(i:Int))=some ():=by rfl
theorem W8 {p:DO} {set letter:Int} (e:p.2.2.2.1.length=p.1.length) (g:p.1.length<=1000000):pK p set letter=some (aft p set letter):=by
 have j: ∀b,aq (jh p set) aT (b,0)=some (.brk (S8 p.2.2.2.1 set b p.1.length,(p.1.length:Int))):=fun b =>
  aO (f:=jh p set) (fun i=>(S8 p.2.2.2.1 set b i,(i:Int))) p.1.length (fun i d=>by
   unfold jh;rw[if_pos (by grind),af (by omega),tF];rw[S8];by_cases c:W7 set (i+1)=true
   ·simp_all[if_pos,au]
   grind) (by unfold jh;simp) (kz (by omega))
 have h: ∀a:Int×Int,aq (ji p letter a) aT (0,0)=some (.brk (pick p.1 a.1 letter p.1.length,(p.1.length:Int))):=fun a =>
  aO (f:=ji p letter a) (fun i=>(pick p.1 a.1 letter i,(i:Int))) p.1.length (fun i d=>by
   unfold ji;rw[if_pos (by grind),af (by omega),tF,tF];rw[pick];by_cases c:W7 a.1 i=true
   ·rw[if_pos c,au (by omega) (by omega)];grind
   grind) (by unfold ji;simp) (kz (by omega))
 unfold pK aft;by_cases c:((qp set 1)==1)=true
 ·simp_all[if_pos,aa,ah]
 simp_all[if_neg,aa,ah]
theorem W9 {p:DO} {set letter:Int} (e:p.2.2.2.1.length=p.1.length) (g:p.1.length<=1000000):im p set letter=some (aft p set letter):=by
 have j: ∀b,aq (dI p set) aT (b,0)=some (.brk (S8 p.2.2.2.1 set b p.2.2.2.1.length,(p.2.2.2.1.length:Int))):=fun b =>
  aO (f:=dI p set) (fun i=>(S8 p.2.2.2.1 set b i,(i:Int))) p.2.2.2.1.length (fun i d=>by
   unfold dI;rw[if_pos (by grind),au (by omega) (by omega)];rw[af (by omega),tF];rw[S8];grind) (by unfold dI;simp) (kz (by omega))
 have h: ∀a:Int×Int,aq (dJ p letter a) aT (0,0)=some (.brk (pick p.1 a.1 letter p.1.length,(p.1.length:Int))):=fun a =>
  aO (f:=dJ p letter a) (fun i=>(pick p.1 a.1 letter i,(i:Int))) p.1.length (fun i d=>by
   unfold dJ;rw[if_pos (by grind),au (by omega) (by omega)];rw[af (by omega),tF,tF];rw[pick];grind) (by unfold dJ;simp) (kz (by omega))
 unfold im aft;by_cases c:((qp set 1)==1)=true
 ·simp_all[if_pos,aa,ah]
 simp_all[if_neg,aa,ah]
theorem Zj (p:DO) (x:Int):mX p x=some (tE p x):=by
 grind[mX,tE]
theorem Zk (p:DO) (x:Int):eB p x=some (tE p x):=by
 grind[eB,tE]
theorem Mq (x:Int): -9223372036854775808<=i64.wrap x/\i64.wrap x<=9223372036854775807:=by
 simp[IntKind.wrap,IntKind.bits,IntKind.signed,Bool.true_and];grind
theorem Xa (x:Int):iOk (i64.wrap x)=true:=by
 have a:i64.min= -9223372036854775808:=by decide
 simp_all[Mq,iOk,Lit.wf,aj,decide_eq_true_eq]
theorem Zl (m n:Int):iOk (orI m n)=true:=Xa _
theorem PN (L:List Int) (m letter:Int): ∀i,iOk (pick L m letter i)=true
 | 0=>by rfl
 | i+1=>by
  rw[pick];split
  ·exact Zl _ _
  ·exact PN L m letter i
def nxS (p:DO) (x:Int):List (Option Int):=(List.range 9).map fun k:Nat=>if aft p x (k:Int)=0 then none else some (aft p x (k:Int))
theorem UK {p:DO} {x:Int} {k:Nat} (a:k<9):nth (nxS p x) (k:Int)=if aft p x k=0 then none else some (aft p x k):=by
 grind[nxS,de]
theorem B3 (p:DO) (x:Int):(nxS p x).length=9:=by simp[nxS]
theorem Zm {p:DO} {x y:Int} (h:some y∈nxS p x):iOk y=true:=by
 have ⟨k,a,e⟩:=List.mem_map.1 h;split at e
 ·cases e
 ·cases ae e;exact PN _ _ _ _
theorem PO {κ:Type} [DecidableEq κ] : ∀(l:List κ) (os:List (Option κ)),(nbS l os).length<=l.length+os.length
 | l,[] =>by simp[nbS]
 | l,o::os=>by
  have h:=PO (nbL l o) os;have a:(nbL l o).length<=l.length+1:=by
   cases o with
   | none=>simp[nbL]
   | some x=>grind[nbL]
  grind[nbS,nbL,aH]
section
variable {κ:Type} [DecidableEq κ] (nx:κ->List (Option κ)) (first:κ) (acc:κ->Bool) (most:Nat)
def goM:Nat->Nat->AutT×Bool
 | 0,i=>((0,[],[]),false)
 | f+1,i=>if i<(bfS nx first i).length then (if (bfS nx first (i+1)).length>most then ((0,[],[]),false) else goM f (i+1)) else ((0,((bfS nx first i).take i).map acc,bfR nx first i),true)
end
section
variable {κ:Type} [DecidableEq κ] {nx:κ->List (Option κ)} {first:κ} {acc:κ->Bool} {most:Nat}
theorem PP {i:Nat} (h: ∀j,j<i->j<(bfS nx first j).length):i<=(bfS nx first i).length:=by
 cases i with
 | zero=>omega
 | succ i =>
  have a:=h i (by omega);grind[bU]
theorem KD {S:Type} {f:S->Option (Out (AutT×Bool) S)} (u:most<=1000000) (h1:1<=most) (b:Nat->S->Prop)
  (hs: ∀i s,b i s->(∀j,j<i->j<(bfS nx first j).length)->(bfS nx first i).length<=most->i<(bfS nx first i).length->((bfS nx first (i+1)).length>most->f s=some (.ret ((0,[],[]),false)))/\((bfS nx first (i+1)).length<=most-> ∃a,f s=some (.nxt a)/\b (i+1) a))
  (k: ∀i s,b i s-> ¬i<(bfS nx first i).length->f s=some (.brk s)) {s:S} (h:b 0 s) :
  (aq f aT s=some (.ret ((0,[],[]),false))/\goM nx first acc most (most+2) 0=((0,[],[]),false)) \/
  ∃N a,aq f aT s=some (.brk a)/\b N a/\bfE nx first N/\N<=most/\goM nx first acc most (most+2) 0=((0,(bfS nx first N).map acc,bfR nx first N),true):=by
 have ⟨o,e,r⟩:=b9 (f:=f) (fun i s=>b i s/\(∀j,j<i->j<(bfS nx first j).length)/\(bfS nx first i).length<=most/\goM nx first acc most (most+2) 0=goM nx first acc most (most+2 - i) i)
  (fun o=>(o= .ret ((0,[],[]),false)/\goM nx first acc most (most+2) 0=((0,[],[]),false))\/ ∃N a,o= .brk a/\b N a/\bfE nx first N/\N<=most/\goM nx first acc most (most+2) 0=((0,(bfS nx first N).map acc,bfR nx first N),true)) most (s:=s) (by
  rintro i s n ⟨d,g,p,m⟩;have l:=PP g;rw[show most+2 - i=(most+1 - i)+1 from by omega] at m;have q:goM nx first acc most (most+1 - i+1) i=if i<(bfS nx first i).length then (if (bfS nx first (i+1)).length>most then ((0,[],[]),false) else goM nx first acc most (most+1 - i) (i+1)) else ((0,((bfS nx first i).take i).map acc,bfR nx first i),true):=rfl
  by_cases c:i<(bfS nx first i).length
  ·grind
  ·refine .inr ⟨_,k i s d c,(fun a e=>by cases e),.inr ⟨i,s,rfl,d,⟨by omega,g⟩,n,?_⟩⟩;grind) ⟨h,fun j t=>by omega,by simp[bfS];omega,rfl⟩ (kz (by omega))
 grind
end
section
variable {p:DO} {most:Nat} (hl:p.2.2.2.1.length=p.1.length) (hb:p.1.length<=1000000) (hm:most<=900000) (h1:1<=most)
include hl hb hm h1
theorem aa4:jk p most=some (goM (nxS p) 1 (tE p) most (most+2) 0):=by
 have n: ∀(l:List Int) (i k:Nat),k<9-> ∃j,(fun b g=>dM b g (p.1,p.2.1,p.2.2.1,p.2.2.2.1,p.2.2.2.2)) (nth l (i:Int)) (k:Int)=some (match nth (nxS p (nth l (i:Int))) (k:Int) with | some y=>(y,true) | none=>(j,false)):=by
  intro l i k h;refine ⟨0,?_⟩;show dM _ _ p=_;unfold dM;rw[W9 hl hb,UK h];by_cases c:aft p (nth l (i:Int)) k=0
  ·grind
  ·grind
 unfold jk fO;rw[show QK ([] :List (Int×Int)) iOk iOk 1 0=some [(1,0)] from by rfl];simp[aa];rcases KD (nx:=nxS p) (first:=1) (acc:=tE p) (most:=most) (f:=cC most (fun b=>eB (p.1,p.2.1,p.2.2.1,p.2.2.2.1,p.2.2.2.2) b) (fun b g=>dM b g (p.1,p.2.1,p.2.2.1,p.2.2.2.1,p.2.2.2.2)))
  (by omega) h1 (fun i s=> ∃M,s=(bfS (nxS p) 1 i,M,(i:Int),0,((bfS (nxS p) 1 i).take i).map (tE p),bfR (nxS p) 1 i)/\MapOf M (bfS (nxS p) 1 i)) (by
   rintro i s ⟨M,rfl,m⟩ w v a;have ⟨r,e,d⟩:=Hm (p3:=fun b g=>dM b g (p.1,p.2.1,p.2.2.1,p.2.2.2.1,p.2.2.2.2)) (l:=bfS (nxS p) 1 i) (M:=M) (os:=nxS p (nth (bfS (nxS p) 1 i) (i:Int))) (acs:=((bfS (nxS p) 1 i).take i).map (tE p)) (rws:=bfR (nxS p) 1 i) a (B3 _ _) m (fun y z=>Zm z)
    (fun k=>by
     grind[PO,bfS,nxS,nth,B3,aB]) (fun k h=>n _ i k h)
   rw[<-mf a] at d;have t:=(bU (nx:=nxS p) (first:=1) i).length_le;constructor
   ·simp_all[cC,if_pos,ah,mf]
   ·intro o;unfold cC;rw[if_pos (by grind),ah e,<-mf a];simp only;rw[if_neg (by grind),au (by omega) (by omega)];simp only[aa];rw[lr (bU i) (by omega) (by omega)];rw[Zk];simp only[aa];have C:=lq w;rw[ay (by simp;omega)];rw[ay (by simp;omega)];simp only[aa,af (show i<9223372036854775807 by omega)];exact ⟨_,rfl,r,by rw[Ag a,xo a],d⟩) (by
   rintro i s ⟨M,rfl,m⟩ A;simp_all[cC,if_neg]) (s:=([1],[(1,0)],0,0,[],[])) ⟨_,rfl,MapOf.one 1⟩ with ⟨e,q⟩ | ⟨N,B,e,⟨M,rfl,m⟩,u,x,q⟩
 ·grind[bg]
 ·rw[ah e,q];simp only[aa];rw[List.take_of_length_le (by have:=u.1;omega)]
theorem S9 {l:List Int} {acs:List Bool} {rws:List (List Int)} {i:Nat} (hi:i<l.length) (h:l.length<=most) :
  aq (jM p (l,(i:Int),0,acs,rws)) aT (l,[],0)=some (.brk (nbS l (nxS p (nth l (i:Int))),nbR l (nxS p (nth l (i:Int))),9)):=by
 have m:=B3 p (nth l (i:Int))
 have:=aO (f:=jM p (l,(i:Int),0,acs,rws)) (fun k=>(nbS l ((nxS p (nth l (i:Int))).take k),nbR l ((nxS p (nth l (i:Int))).take k),(k:Int))) 9 (fun k g=>by
  have a:=mP l ((nxS p (nth l (i:Int))).take k);have b:=a.length_le;have j:=PO l ((nxS p (nth l (i:Int))).take k);rw[aB] at j;have e:(nbR l ((nxS p (nth l (i:Int))).take k)).length<=9:=by rw[iM,aB];omega
  unfold jM;simp only[jX];rw[if_pos (by grind),au (by omega) (by omega)];simp only[aa];rw[lr a (by omega) (by omega),W8 hl hb];simp only[aa];rw[take_one (by omega),xi,ui,UK g];simp only[af (show k<9223372036854775807 by omega)];by_cases c:aft p (nth l (i:Int)) k=0
  ·rw[if_pos c,if_neg (by simp[c])];simp[aa];rw[ay (by grind)];rfl
  ·rw[if_neg c,if_pos (by grind),UJ (by omega)];simp[aa];by_cases d:aft p (nth l (i:Int)) k∈nbS l ((nxS p (nth l (i:Int))).take k)
   ·rw[if_pos d,if_neg (by simp),nT d];simp[aa];rw[ay (by grind)];rfl
   ·rw[if_neg d,if_pos (by decide),ay (by grind),nU d];simp[aa];rw[ay (by simp;omega)];simp[nbI,qY d,aa]) (by
  rfl) (by unfold aT;omega)
 exact this
theorem Zn:fc p most=some (goM (nxS p) 1 (tE p) most (most+2) 0):=by
 unfold fc;rcases KD (nx:=nxS p) (first:=1) (acc:=tE p) (most:=most) (f:=gE p most)
  (by omega) h1 (fun i s=>s=(bfS (nxS p) 1 i,(i:Int),0,((bfS (nxS p) 1 i).take i).map (tE p),bfR (nxS p) 1 i)) (by
   rintro i s rfl g c a;have e:=S9 hl hb hm h1 (acs:=((bfS (nxS p) 1 i).take i).map (tE p)) (rws:=bfR (nxS p) 1 i) a c;have h:=(bU (nx:=nxS p) (first:=1) i).length_le;constructor
   ·simp_all[gE,if_pos,ah,mf]
   ·intro d;unfold gE;rw[if_pos (by grind),ah e,<-mf a];simp only;rw[if_neg (by grind),au (by omega) (by omega)];simp only[aa];rw[lr (bU i) (by omega) (by omega)];rw[Zj];simp only[aa];have m:=lq g;rw[ay (by simp;omega)];rw[ay (by simp;omega)];simp only[aa,af (show i<9223372036854775807 by omega)];exact ⟨_,rfl,by rw[Ag a,xo a]⟩) (by
   simp_all[gE,if_neg]) (s:=([1],0,0,[],[])) rfl with ⟨e,b⟩ | ⟨N,l,e,rfl,j,k,b⟩
 ·rw[bg e,b]
 ·rw[ah e,b];rw[List.take_of_length_le (by have:=j.1;omega)]
end
theorem Ta (m n:Int):orI m n=orI n m:=by unfold orI;rw[BitVec.or_comm]
def lk (F:List Int) (from_ to_:Int):Nat->List Int
 | 0=>F
 | i+1=>if W7 from_ i then (lk F from_ to_ i).set i (orI (nth (lk F from_ to_ i) (i:Int)) to_) else lk F from_ to_ i
theorem xp (F:List Int) (f t:Int): ∀i,(lk F f t i).length=F.length
 | 0=>rfl
 | i+1=>by
  rw[lk];split
  ·rw[List.length_set,xp]
  ·exact xp F f t i
theorem KE {p:DO} {f t:Int} (d:p.2.2.2.1.length<=1000000):oW p f t=some (p.1,p.2.1,p.2.2.1,lk p.2.2.2.1 f t p.2.2.2.1.length,p.2.2.2.2):=by
 have a:aq (j7 f t) aT (0,p.2.2.2.1)=some (.brk ((p.2.2.2.1.length:Int),lk p.2.2.2.1 f t p.2.2.2.1.length)):=aO (f:=j7 f t) (fun i=>((i:Int),lk p.2.2.2.1 f t i)) p.2.2.2.1.length (fun i b=>by
  have e:=xp p.2.2.2.1 f t i;unfold j7;rw[if_pos (by grind),tF];rw[lk,af (by omega)];by_cases c:W7 f i=true
  ·simp_all[if_pos,au,aa,Int.toNat_natCast]
  grind) (by unfold j7;simp[xp]) (kz (by omega))
 grind[oW,ah]
theorem KF {p:DO} {f t:Int} (d:p.2.2.2.1.length<=1000000):eT p f t=some (p.1,p.2.1,p.2.2.1,lk p.2.2.2.1 f t p.2.2.2.1.length,p.2.2.2.2):=by
 have a:aq (dz p f t) aT (0,p.2.2.2.1)=some (.brk ((p.2.2.2.1.length:Int),lk p.2.2.2.1 f t p.2.2.2.1.length)):=aO (f:=dz p f t) (fun i=>((i:Int),lk p.2.2.2.1 f t i)) p.2.2.2.1.length (fun i b=>by
  have e:=xp p.2.2.2.1 f t i;unfold dz;rw[if_pos (by grind),tF];rw[lk,af (by omega)];by_cases c:W7 f i=true
  ·simp_all[if_pos,au,aa,Int.toNat_natCast]
  grind) (by unfold dz;simp) (kz (by omega))
 grind[eT,ah]
def BOk (x:Tr Tok):Prop:= ∀(n m:Nat) (p:DO),(flat x).length<=n->(flat x).length<=m->p.2.2.2.1.length=p.1.length->p.1.length+(flat x).length<=100000->
 ∃(nu:Bool) (fi la:Int) (q:DO),cz n p (flat x)=some ((nu,fi,la),q)/\bB m p x=some ((fi,la,nu),q)/\q.2.2.2.1.length=q.1.length/\q.1.length<=p.1.length+(flat x).length
theorem Tb {x:Tr Tok} (h:WT x):BOk x:=by
 refine WT.ind (p:=BOk) ?_ ?_ ?_ h
 ·intro t e n m p c d u i;rw[E6] at c d i⊢;simp only[aH,aJ] at i
  match n,m,c,d with
  | n+1,m+1,_,_ =>
   rw[cz,bB];simp only[sf,aa]
   have:=(kM (A:=[]) (t:=t) (by simp)).1
   rw[List.nil_append] at this;rw[this];simp only[aa,jX];rcases mQ (show 0<=ar t by omega) with ⟨k,_⟩ | ⟨k,_⟩ | ⟨_,k⟩
   ·omega
   ·omega
   rcases k with k | k | k
   ·exact ⟨false,0,0,p,by simp[k],by simp[k],u,by simp⟩
   ·exact ⟨true,0,0,p,by simp[k],by simp[k],u,by simp⟩
   ·refine ⟨false,vZ 1 (p.1.length:Int),vZ 1 (p.1.length:Int),(p.1++ [t.2.1],p.2.1,p.2.2.1,p.2.2.2.1++ [0],p.2.2.2.2),?_,?_,by grind,by simp⟩
    ·rw[if_neg (by simp[k]),if_pos (by simp[k]),ay (by grind)];simp only[aa];rw[ay (by simp;omega)];rfl
    ·rw[if_neg (by simp[k]),if_pos (by simp[k]),ay (by grind)];simp only[aa];rw[ay (by simp;omega)];rfl
 ·intro t a e P ih n m p c d u i;rw[CZ] at c d i⊢;simp only[az,aH,aJ] at c d i
  match n,m,c,d with
  | n+1,m+1,c,d =>
   rw[cz,bB];simp only[sf,aa,jX];obtain ⟨N,G⟩:=kM (A:=flat a) (t:=t) (by omega);rw[N];simp only[aa];obtain ⟨j,B,v,q,H,I,o,O⟩:=ih n m p (by omega) (by omega) u (by omega);rcases Pz e with ⟨R,F⟩ | ⟨R,F,k3⟩
   ·have C:(t.1==2)=false:=by simp[F]
    have y:(t.1==3)=false:=by simp[F]
    have E:(t.1==4)=false:=by simp[F]
    have D:(t.1==5)=false:=by simp[F]
    simp only[C,y,E,D,R,Bool.false_eq_true,if_false,if_true];rw[G,Int.toNat_natCast,List.take_left,jE (by grind)];simp only[aa];rw[H,show aP [a] 0=some a from rfl];simp only[aa];rw[I];simp only[aa,jX];rw[KE (by omega),KF (by omega)];simp only[aa];refine ⟨true,B,v,_,rfl,rfl,?_,?_⟩
    ·simp only[xp];exact o
    ·simp only[az,aH,aJ];omega
   grind
 ·intro t a b e P S L K n m p c d u i;rw[xl] at c d i⊢;have M:((flat a++flat b)++ [t]).length<=1000000:=by omega
  obtain ⟨Q,V,T,W⟩:=xn (a:=a) (t:=t) S M;simp only[az,aH,aJ] at c d i
  match n,m,c,d with
  | n+1,m+1,c,d =>
   have hpa:=P.pos;have Y:=S.pos;rw[cz,bB];simp only[sf,aa,jX];obtain ⟨N,G⟩:=kM (A:=flat a++flat b) (t:=t) (by grind);rw[N];simp only[aa];obtain ⟨j,B,v,q,H,I,o,O⟩:=L n m p (by omega) (by omega) u (by omega);obtain ⟨f,s,g,l,z,w,J,hq4⟩:=K n m q (by omega) (by omega) o (by omega);have c1: ∀r:Int,0<=r->r<=((flat a++flat b++ [t]).length:Int)->chk (0<=r/\r<=((flat a++flat b++ [t]).length:Int))=some ():=fun r Z h2=>jE ⟨Z,h2⟩;have X:aP [a,b] 0=some a:=rfl;have U:aP [a,b] 1=some b:=rfl;rcases mQ (show 0<=ar t by omega) with ⟨_,k⟩ | ⟨k,_⟩ | ⟨k,_⟩
   ·rcases k with k | k
    ·have C:(t.1==2)=false:=by simp[k]
     have y:(t.1==3)=false:=by simp[k]
     have E:(t.1==4)=true:=by simp[k]
     have D:(t.1==5)=false:=by simp[k]
     simp only[C,y,E,D,Bool.false_eq_true,if_false,if_true];rw[G,Q,V,jE (by grind)];simp only[aa];rw[jE (by grind),T,W,H,X,U];simp only[aa];rw[I,jE (by grind)];simp only[aa,jX];rw[z,w];simp only[aa,jX];rw[KE (by omega),KF (by omega)];simp only[aa];refine ⟨j&&f,if j then orI B s else B,if f then orI v g else g,(l.1,l.2.1,l.2.2.1,lk l.2.2.2.1 v s l.2.2.2.1.length,l.2.2.2.2),?_,?_,?_,?_⟩
     ·cases j <;> cases f <;> rfl
     ·rw[Ta v g];cases j <;> cases f <;> rfl
     ·grind[xp]
     grind
    ·have C:(t.1==2)=false:=by simp[k]
     have y:(t.1==3)=false:=by simp[k]
     have E:(t.1==4)=false:=by simp[k]
     have D:(t.1==5)=true:=by simp[k]
     simp only[C,y,E,D,Bool.false_eq_true,if_false,if_true];rw[G,Q,V,jE (by grind)];simp only[aa];rw[jE (by grind),T,W,H,X,U];simp only[aa];rw[I,jE (by grind)];simp only[aa,jX];rw[z,w];simp only[aa,jX];refine ⟨j || f,orI B s,orI v g,l,?_,?_,J,?_⟩
     ·cases j <;> simp
     ·cases j <;> simp
     grind
   ·omega
   ·omega
def KG (e:List Tok):Nat->Nat
 | 0=>0
 | i+1=>if (nth e (i:Int)).1=3 then KG e i+1 else KG e i
theorem I6 (e:List Tok): ∀i,KG e i<=i
 | 0=>aL _
 | i+1=>by
  have:=I6 e i
  grind[KG]
theorem Zo {r:List Tok×Bool} (b:r.1.length<=1000000):aq (ep r) aT (0,0)=some (.brk ((KG r.1 r.1.length:Int),(r.1.length:Int))):=
 aO (f:=ep r) (fun i=>((KG r.1 i:Int),(i:Int))) r.1.length (fun i a=>by
  have:=I6 r.1 i
  unfold ep;rw[if_pos (by grind),au (by omega) (by omega)];rw[KG,af (show i<9223372036854775807 by omega),af (show KG r.1 i<9223372036854775807 by omega)];grind) (by unfold ep;simp) (kz (by omega))
theorem aa5 {r:List Tok×Bool} (b:r.1.length<=1000000):aq (eA r) aT (0,0)=some (.brk ((KG r.1 r.1.length:Int),(r.1.length:Int))):=
 aO (f:=eA r) (fun i=>((KG r.1 i:Int),(i:Int))) r.1.length (fun i a=>by
  have:=I6 r.1 i
  unfold eA;rw[if_pos (by grind),au (by omega) (by omega)];rw[KG,af (show i<9223372036854775807 by omega),af (show KG r.1 i<9223372036854775807 by omega)];grind) (by unfold eA;simp) (kz (by omega))
theorem vT {e:List Tok} (i:e.length<=1048576): ∃r:DO×Bool,dy e=some r/\iR e=some r/\r.1.2.2.2.1.length=r.1.1.length/\r.1.1.length<=100000:=by
 have n:=pz;have ⟨m,k⟩:=I3 i;unfold dy iR;rw[m,k];simp only[aa];by_cases c:(Kx e).2=true
 ·have ⟨y,a,f,s⟩:=PD c;rw[if_pos c,if_pos c,ah (Zo (by grind)),ah (aa5 (by grind))];by_cases d:(KG (Kx e).1 (Kx e).1.length:Int)>20
  ·simp_all
  ·have g:=decide_eq_false d;simp only[g,Bool.false_eq_true,if_false];rw[f,E8 (by omega),uj a];simp only[aa];have ⟨t,o,p,q,b,j,h,l⟩:=Tb a fH fH ([],0,0,[],false) (by omega) (by omega) rfl (by grind);rw[b,j];simp[aa];grind
 simp_all
theorem Mr (n:Nat) (l:List Int) (a:l.Nodup) (h: ∀x∈l,0<=x/\x<n):l.length<=n:=by
 have:=a.length_le_of_subset (l₂:=(List.range n).map Int.ofNat) (fun x b=>by
  obtain ⟨d,c⟩:=h x b;exact List.mem_map.2 ⟨x.toNat,List.mem_range.2 (by omega),by show ((x.toNat:Nat):Int)=x;omega⟩)
 simpa using this
theorem Zp {n:Nat} {x:Int} (a:n<=1000000) (b:0<=x) (h1:x<n):iOk x=true:=by
 have:=PK (n:=x.toNat) (by omega)
 rwa [show ((x.toNat:Nat):Int)=x from by omega] at this
theorem Zq {κ:Type} [DecidableEq κ] {nx:κ->List (Option κ)} {first:κ} {G:κ->Prop} {B N:Nat} {acc:κ->Bool} (H:NumOk nx first G B) (d:B<=1000000) (c:bfE nx first N):Data.sm ((0,(bfS nx first N).map acc,bfR nx first N):AutT):=by
 have f:=H.bound _ (py (nx:=nx) (first:=first) N) (mb H.g0 H.gn N);refine ⟨trivial,⟨by rw[List.length_map];omega,fun _ _=>trivial⟩,?_,?_⟩
 ·rw[lq c.2];have:=c.1;omega
 ·have key: ∀i,i<=N-> ∀r∈bfR nx first i,r.length=9:=by
   intro i;induction i with
   | zero=>intro _ r a;cases a
   | succ i ih =>
    intro e r a;have b:=c.2 i (by omega);rw[xj b] at a;rcases aG a with a | a
    ·exact ih (by omega) r a
    ·obtain rfl:=ak a;rw[iM,H.len _ (mb H.g0 H.gn i _ (List.getElem_mem b))]
  intro r a;exact ⟨by rw[key N (aL _) r a];decide,fun _ _=>trivial⟩
theorem Ms:Data.sm nothing:=⟨trivial,⟨by decide,fun _ _=>trivial⟩,by decide,fun r a=>by
 obtain rfl:=ak a;exact ⟨by decide,fun _ _=>trivial⟩⟩
theorem Mt {κ:Type} [DecidableEq κ] {l m:List κ} (h:l <+:m) {y:κ} (a:y∈l):(m.idxOf y:Int)=l.idxOf y:=by
 obtain ⟨t,rfl⟩:=h;grind
theorem UL {κ:Type} [DecidableEq κ] : ∀(l:List κ) (os:List (Option κ)) (i:Nat),i<os.length->nth (nbR l os) (i:Int)=nbI (nbS l os) (nth os (i:Int))
 | l,o::os,0,_=>by
  show nbI l o=nbI (nbS (nbL l o) os) o;cases o with
  | none=>rfl
  | some y =>
   have d:y∈nbL l (some y):=Pu.2 (.inr rfl);simp[nbI];rw[Mt (mP _ os) d];by_cases c:y∈l
   ·rw[nT c]
   simp_all[nU,List.idxOf_append,if_neg,qY]
 | l,o::os,i+1,h=>by
  have a:i<os.length:=by simpa using h
  have b:=UL (nbL l o) os i a;have e:nth (nbR l (o::os)) ((i+1:Nat):Int)=nth (nbR (nbL l o) os) (i:Int):=by
   rfl
  have f:nth (o::os) ((i+1:Nat):Int)=nth os (i:Int):=by rfl
  exact b
theorem qn {κ:Type} [DecidableEq κ] {l:List κ} {y:κ} (h:y∈l): ∃(q:Nat) (a:q<l.length),nbI l (some y)=(q:Int)/\l[q] =y:=
 ⟨l.idxOf y,List.idxOf_lt_length_of_mem h,rfl,by simp⟩
theorem Fb {κ:Type} [DecidableEq κ] {l:List κ} {y:κ} (h:y∉l):nbI l (some y)=(l.length:Int):=by simp[nbI,qY h]
def UM:List Int->Nat->Nat->Prop
 | [],c,m=>c=m
 | x::xs,c,m=>(x= -1/\UM xs c m)\/(0<=x/\x<c/\UM xs c m)\/(x=c/\UM xs (c+1) m)
theorem Fc {κ:Type} [DecidableEq κ] : ∀(os:List (Option κ)) (l:List κ),UM (nbR l os) l.length (nbS l os).length
 | [],l=>rfl
 | none::os,l=>.inl ⟨rfl,Fc os l⟩
 | some y::os,l=>by
  by_cases c:y∈l
  ·refine .inr (.inl ⟨Int.natCast_nonneg _,?_,?_⟩)
   ·grind[List.idxOf_lt_length_of_mem,nbI]
   ·show UM (nbR (nbL l (some y)) os) l.length (nbS (nbL l (some y)) os).length;rw[nT c];exact Fc os l
  ·refine .inr (.inr ⟨by simp[nbI,qY c],?_⟩);show UM (nbR (nbL l (some y)) os) (l.length+1) (nbS (nbL l (some y)) os).length
   have:=Fc os (l++ [y])
   grind[nU]
def aat:List Int->List (Option (List Int))->Prop
 | [],[] =>True
 | x::xs,o::os=>((x<0/\o=none)\/(0<=x/\ ∃t,o=some (x::t)))/\aat xs os
 | _,_=>False
theorem PQ: ∀(xs:List Int) (os:List (Option (List Int))),xs.length=os.length->(∀i (h:i<xs.length) (a:i<os.length),(xs[i] < 0/\os[i] =none)\/(0<=xs[i] /\ ∃t,os[i] =some (xs[i] ::t)))->aat xs os
 | [],[],_,_=>trivial
 | x::xs,o::os,hl,h=>⟨h 0 (by simp) (by simp),PQ xs os (by grind) fun i c b=>h (i+1) (by grind) (by grind)⟩
theorem pA: ∀(xs:List Int) (os:List (Option (List Int))) (l:List (List Int)) (c m:Nat),aat xs os->UM xs c m->(∀y∈l,∃h t,y=h::t/\h<c)->
  m+l.length<=(nbS l os).length+c/\(l.length=c->(∀(q:Nat) (u:q<l.length),∃t,l[q] =(q:Int)::t)->(nbS l os).length=m->nbR l os=xs)
 | [],[],l,c,m,_,a,_=>by
  subst a;exact ⟨by simp[nbS];omega,fun _ _ _=>rfl⟩
 | x::xs,o::os,l,c,m,hr,a,hh=>by
  have ⟨i,b⟩:=hr;rcases a with ⟨rfl,a⟩ | ⟨z,s,a⟩ | ⟨rfl,a⟩
  ·have v:o=none:=by
    rcases i with ⟨-,h⟩ | ⟨h,-⟩
    ·exact h
    ·omega
   subst v;have ⟨g,f⟩:=pA xs os l c m b a hh;exact ⟨g,fun j n d=>by show -1::nbR l os=_;rw[f j n d]⟩
  ·obtain ⟨t,rfl⟩: ∃t,o=some (x::t):=by
    grind
   by_cases k:(x::t)∈l
   ·have ⟨g,f⟩:=pA xs os l c m b a hh;grind[nbL,nT,nbS,qn,nbI,nbR]
   ·have ⟨g,f⟩:=pA xs os (l++ [x::t]) c m b a (fun y w=>by
     grind)
    grind[az,List.length_singleton,nbS,nbL]
  ·obtain ⟨t,rfl⟩: ∃t,o=some ((c:Int)::t):=by
    grind
   have k:((c:Int)::t)∉l:=fun k=>by
    grind
   have r:=nU k;have ⟨g,f⟩:=pA xs os (l++ [(c:Int)::t]) (c+1) m b a (fun y w=>by
    grind)
   have p:(l++ [(c:Int)::t]).length=l.length+1:=by simp
   refine ⟨by grind[nbS,nbL],fun j n d=>?_⟩;have d:(nbS (nbL l (some ((c:Int)::t))) os).length=m:=d;rw[r] at d
   have:=f (by omega) (fun q u=>by
    by_cases e:q<l.length
    ·grind
    grind) d
   grind[nbI,nbR,nbL,Fb]
theorem B4 (xs ys:List Int) (l:xs.length<=1048576): ∃r,oT xs ys=some r/\(r=0↔xs=ys):=by
 unfold oT;have b:=Za (f:=pJ xs ys) xs ys (fun i h a=>by
  simp[pJ,cH h,cH a,if_true,aI h,aI a,aa,af (show i<9223372036854775807 by omega)];grind) (fun i d=>by
  grind[pJ]) xs.length 0 aT (by omega) (gx _ (by omega))
 rw[show (((0:Nat):Int))=(0:Int) from rfl] at b;rcases b with ⟨r,e,c,j⟩ | ⟨s,e,c⟩
 ·exact ⟨r,by rw[e];rfl,by grind⟩
 ·simp[aN];by_cases k:xs.length<ys.length
  ·exact ⟨-1,by grind,by grind⟩
  ·by_cases g:xs.length>ys.length
   ·exact ⟨1,by grind,by grind⟩
   ·exact ⟨0,by grind,by grind⟩
theorem B5 (xs ys:List Int) (b:xs.length<=9223372036854775807):cP xs ys=some (decide (xs=ys)):=
 eqL (f:=c8 xs ys) xs ys b (fun i h a=>by
  simp[c8,cH h,if_true,aI h,aI a,aa,af (show i<9223372036854775807 by omega)];grind) (by simp only[c8,cj];rfl)
def UN (a:AutT):List Int:=(List.range a.2.1.length).map fun s:Nat=>if nth (live a) (s:Int)=true then (if nth a.2.1 (s:Int)=true then 1 else 0) else -1
def ent (a:AutT) (c:List Int) (s:Int) (k:Nat):Int:=if mv a s k<0 then -1 else nth c (mv a s k)
def FA (a:AutT) (c:List Int) (s:Int):List Int:=nth c s::(List.range 9).map fun k=>ent a c s k
def FC (a:AutT) (c:List Int) (s:Nat):Option (List Int):=if nth c (s:Int)<0 then none else some (FA a c s)
def keys (a:AutT) (c:List Int):List (Option (List Int)):=(List.range a.2.1.length).map (FC a c)
def DP (a:AutT) (c:List Int):List Int:=nbR [] (keys a c)
def Cq (a:AutT) (c:List Int):Nat:=(nbS [] (keys a c)).length
def cI (a:AutT):Nat->List Int
 | 0=>UN a
 | j+1=>DP a (cI a j)
section
variable {a:AutT} {n:Nat}
theorem fB (a:AutT) (c:List Int):(keys a c).length=a.2.1.length:=by simp[keys]
theorem I7 {c:List Int} {s:Nat} (h:s<a.2.1.length):nth (keys a c) (s:Int)=FC a c s:=by
 grind[de,keys]
theorem B6 (a:AutT) (c:List Int):(DP a c).length=a.2.1.length:=by rw[DP,iM,fB]
theorem q8 (a:AutT): ∀j,(cI a j).length=a.2.1.length
 | 0=>by simp[cI,UN]
 | j+1=>B6 a _
theorem rI {κ:Type} [DecidableEq κ] : ∀(l:List κ) (os:List (Option κ)),(nbS l os).length<=l.length+os.length
 | l,[] =>by simp[nbS]
 | l,o::os=>by
  have h:=rI (nbL l o) os
  have:(nbL l o).length<=l.length+1:=by
   cases o with
   | none=>simp[nbL]
   | some x=>grind[nbL]
  grind[nbS,nbL,aH]
theorem I8 (a:AutT) (c:List Int):Cq a c<=a.2.1.length:=by
 grind[rI,keys,fB,Cq]
theorem Fe {c:List Int} {s:Nat} (h:s<a.2.1.length):nth (DP a c) (s:Int)=nbI (nbS [] (keys a c)) (FC a c s):=by
 grind[DP,UL,fB,I7]
theorem B7 {c:List Int} {s:Nat} (h:s<a.2.1.length) (b: ¬nth c (s:Int)<0):FA a c s∈nbS [] (keys a c):=by
 refine yy.2 (.inr ?_);refine List.mem_map.2 ⟨s,List.mem_range.2 h,?_⟩;unfold FC;grind
theorem Ah {c:List Int} {s:Nat} (h:s<a.2.1.length):(nth (DP a c) (s:Int)<0↔nth c (s:Int)<0)/\(nth (DP a c) (s:Int)<0->nth (DP a c) (s:Int)= -1):=by
 rw[Fe h];unfold FC;by_cases b:nth c (s:Int)<0
 ·simp_all[if_pos,nbI]
 ·grind[qn,B7,absurd]
theorem Xb {c:List Int} {s:Nat} (h:s<a.2.1.length):nth (DP a c) (s:Int)<(a.2.1.length:Int):=by
 rw[Fe h];unfold FC;by_cases b:nth c (s:Int)<0
 ·grind[nbI]
 ·obtain ⟨q,d,e,-⟩:=qn (B7 h b)
  have:=I8 a c
  grind[Cq]
theorem PR {c:List Int} {s t:Nat} (hs:s<a.2.1.length) (b:t<a.2.1.length) (o:0<=nth (DP a c) (s:Int)) (h:nth (DP a c) (s:Int)=nth (DP a c) (t:Int)):FA a c s=FA a c t:=by
 have i: ¬nth c (s:Int)<0:=fun k=>by have:=(Ah hs).1.2 k;omega
 have f: ¬nth c (t:Int)<0:=fun k=>by simp_all[Ah]
 rw[Fe hs,Fe b] at h;unfold FC at h;have ⟨q,p,j,m⟩:=qn (B7 hs i);have ⟨l,e,d,g⟩:=qn (B7 b f);grind
theorem DQ (a:AutT) {s:Nat} (h:s<a.2.1.length): ∀j,(nth (cI a j) (s:Int)<0↔nth (live a) (s:Int)=false)/\(nth (cI a j) (s:Int)<0->nth (cI a j) (s:Int)= -1)
 | 0=>by
  grind[nth,cI,live,UN,de]
 | j+1=>by
  have b:=DQ a h j;grind[Ah,cI,trans]
theorem UO (a:AutT) {s t:Nat} (hs:s<a.2.1.length) (b:t<a.2.1.length): ∀j,0<=nth (cI a j) (s:Int)->nth (cI a j) (s:Int)=nth (cI a j) (t:Int)->nth a.2.1 (s:Int)=nth a.2.1 (t:Int)
 | 0,h0,h=>by
  grind[nth,cI,live,UN,de]
 | j+1,h0,h=>by
  have k:=PR (c:=cI a j) hs b h0 h;have d:nth (cI a j) (s:Int)=nth (cI a j) (t:Int):=by
   injection k
  refine UO a hs b j ?_ d
  have:=(Ah (c:=cI a j) hs).1
  grind[nth,cI,DP]
theorem Xc (a:AutT) (j:Nat):UM (cI a (j+1)) 0 (Cq a (cI a j)):=Fc (keys a (cI a j)) []
theorem Tc (a:AutT) {c:List Int} (e:c.length=a.2.1.length):aat c (keys a c):=by
 refine PQ _ _ (by rw[fB,e]) fun i h f=>?_;have b:=(de h).symm;have d:(keys a c)[i] =FC a c i:=by simp[keys]
 rw[b,d];unfold FC;by_cases k:nth c (i:Int)<0
 ·grind
 ·exact .inr ⟨by omega,_,by rw[if_neg k];rfl⟩
theorem PS (a:AutT) (j:Nat):Cq a (cI a j)<=Cq a (cI a (j+1))/\(Cq a (cI a (j+1))=Cq a (cI a j)->cI a (j+2)=cI a (j+1)):=by
 have ⟨e,c⟩:=pA (cI a (j+1)) (keys a (cI a (j+1))) [] 0 (Cq a (cI a j)) (Tc a (q8 a _)) (Xc a j) (fun y b=>by cases b);exact ⟨by grind[Cq],fun h=>c rfl (fun q d=>absurd d (Nat.not_lt_zero q)) h⟩
theorem Zr {j k:Nat} (h:cI a (j+1)=cI a j) (b:j<=k):cI a k=cI a j:=by
 induction b with
 | refl=>rfl
 | step _ ih=>rw[cI,ih];exact h
theorem PU {j k:Nat} (h:cI a (j+1)=cI a j) (b:cI a (k+1)=cI a k):cI a j=cI a k:=by
 grind[Nat.le_total,Zr]
theorem Xd (a:AutT): ∃j,j<=a.2.1.length/\cI a (j+1)=cI a j:=by
 by_cases e:cI a 1=cI a 0
 ·grind
 have d:1<=Cq a (cI a 0):=by
  refine Nat.one_le_iff_ne_zero.2 fun l=>e ?_;have b: ∀s:Nat,s<a.2.1.length->nth (cI a 0) (s:Int)<0:=fun s f=>by
   grind[B7,cI,List.length_pos_of_mem,Cq]
  refine W1 (by grind[q8]) fun i c=>?_;rw[q8] at c;have g:=(DQ a c 0).2 (b i c);have k:=(DQ a c 1).2 (((DQ a c 1).1.trans (DQ a c 0).1.symm).2 (b i c));omega
 have key: ∀m,(∃j,j<=m/\cI a (j+1)=cI a j)\/m+1<=Cq a (cI a m):=by
  intro m;induction m with
  | zero=>omega
  | succ m ih =>
   grind[PS]
 rcases key a.2.1.length with h | h
 ·exact h
 grind[I8,cI]
end
section
variable {a:AutT} {n:Nat} {c:List Int}
theorem KH (k:Nat) (s:Int):(List.range (k+1)).map (fun k=>ent a c s k)=(List.range k).map (fun k=>ent a c s k)++ [ent a c s k]:=by simp[List.range_succ]
theorem aa6 (V:VA a n) (e:n<=1000000) (d:c.length=n) {s:Nat} (hs:s<n):qA a c s=some (FA a c s):=by
 unfold qA;rw[au (by omega) (by omega)];simp only[aa]
 have:=aO (f:=od a c s) (fun k=>(nth c (s:Int)::(List.range k).map (fun k=>ent a c s k),(k:Int))) 9 (fun k b=>by
  have g:=V.mv (s:=s) (k:=k) (by omega) (by omega) b;unfold od;simp only;rw[if_pos (by simp;omega),V.get (by omega) (by omega)];simp only[aa];rw[V.get2 (by omega) (by omega) b,KH];simp only[aa,af (show k<9223372036854775807 by omega)];by_cases h:mv a s k<0
  ·rw[if_pos (by simpa using h),ay (by simp;omega),show ent a c s k= -1 from by unfold ent;rw[if_pos h]];rfl
  ·rw[if_neg (by simpa using h),au (by omega) (by omega)];simp only[aa];rw[ay (by simp;omega),show ent a c s k=nth c (mv a s k) from by unfold ent;rw[if_neg h]];rfl) (by unfold od;simp) (by unfold aT;omega)
 exact ah this
theorem aa7 (V:VA a n) (i:n<=1000000) (g:c.length=n) {s:Nat} (hs:s<n):aq (dA c (nth a.2.2 (s:Int))) aT (0,[nth c (s:Int)])=some (.brk (9,FA a c s)):=by
 have b:=V.rowAt (s:=s) (by omega) (by omega);exact aO (f:=dA c (nth a.2.2 (s:Int))) (fun k=>((k:Int),nth c (s:Int)::(List.range k).map (fun k=>ent a c s k))) 9 (fun k d=>by
  have j:=V.mv (s:=s) (k:=k) (by omega) (by omega) d;unfold dA;simp only;rw[if_pos (by simp[b];omega),V.get2 (by omega) (by omega) d,KH];simp only[aa,af (show k<9223372036854775807 by omega)];by_cases h:mv a s k<0
  ·have e:mv a s k= -1:=by omega
   rw[if_neg (by simp;omega)];simp only[aa];rw[ay (by simp;omega),show ent a c s k=mv a s k from by unfold ent;rw[if_pos h,e]];rfl
  ·rw[if_pos (by simp;omega),au (by omega) (by omega)];simp only[aa];rw[ay (by simp;omega),show ent a c s k=nth c (mv a s k) from by unfold ent;rw[if_neg h]];rfl) (by unfold dA;simp[b]) (by unfold aT;omega)
theorem Hn {κ:Type} [DecidableEq κ] {l t r:List κ} {x:κ} (e:l=t++x::r) (b:x∉t):nbI l (some x)=(t.length:Int):=by
 subst e;simp only[nbI];rw[List.idxOf_append,if_neg b,List.idxOf_cons_self,Nat.zero_add]
def Zs (l:List (List Int)) (x:List Int):Int:=if x∈l then nbI l (some x) else -1
theorem Zt {l:List (List Int)} {x cs:List Int} {q:Int} (w:l.length<=1000000) (s:l.Nodup) (v: ∀y∈l,y.length<=1048576):aq (gG (l,cs,q) x) aT (-1,0)=some (.brk (Zs l x,(l.length:Int))):=by
 have:=aO (f:=gG (l,cs,q) x) (fun k=>(if x∈l.take k then nbI l (some x) else -1,(k:Int))) l.length (fun k d=>by
  unfold gG;simp only;rw[if_pos (by simp;omega),au (by omega) (by omega)];simp only[aa,Int.toNat_natCast,af (show k<9223372036854775807 by omega)];obtain ⟨r,e,g⟩:=B4 (nth l (k:Int)) x (v _ (bT (by omega) (by omega)));rw[e,take_one d];simp only[aa,List.mem_append,List.mem_singleton];by_cases h:nth l (k:Int)=x
  ·have b:r=0:=g.2 h;have u:x∈l:=h ▸ bT (by omega) (by omega);obtain ⟨q,i,t,o⟩:=qn u
   have:q=k:=by
    have m:l[q]? =some x:=by rw[List.getElem?_eq_getElem i,o]
    have p:l[k]? =some x:=by rw[List.getElem?_eq_getElem d,<-de d,h]
    exact (List.getElem?_inj i s).1 (m.trans p.symm)
   subst this;rw[if_pos (by simp[b]),if_pos (.inr h.symm),t];rfl
  ·have b:r≠0:=fun e=>h (g.1 e);have j: ¬x=nth l (k:Int):=fun e=>h e.symm;rw[if_neg (by simpa using b)];simp[j]) (by unfold gG;simp) (kz (by omega))
 rw[List.take_of_length_le (aL _)] at this;exact this
theorem Zu {l:List (List Int)} {x:List Int} {f:List Int->Option Bool} (q:l.length<=1000000) (i: ∀y∈l,f y=some (decide (y=x))):cm l f=some (Zs l x):=by
 unfold cm;obtain ⟨o,e,m⟩:=b9 (f:=cQ l f) (fun k s=>s=(k:Int)/\x∉l.take k) (fun o=>(x∈l/\o= .ret (nbI l (some x)))\/(x∉l/\ ∃s,o= .brk s)) l.length (s:=0) (by
  rintro k s r ⟨rfl,d⟩;unfold cQ;by_cases b:k<l.length
  ·rw[if_pos (by simp;omega),au (by omega) (by omega)];simp only[aa];rw[i _ (bT (by omega) (by omega))];simp only[aa];by_cases h:nth l (k:Int)=x
   ·refine .inr ⟨_,by rw[if_pos (by simpa using h)],(fun j e=>by cases e),.inl ?_⟩;have p:x∈l:=h ▸ bT (by omega) (by omega);refine ⟨p,?_⟩;have e:l=l.take k++(x::l.drop (k+1)):=by
     rw[<-h,de b,<-List.drop_eq_getElem_cons b,List.take_append_drop]
    rw[Hn e d,aB,Nat.min_eq_left (by omega)]
   ·refine .inl ⟨b,_,by rw[if_neg (by simpa using h)],by rw[af (by omega)],?_⟩;rw[take_one b,List.mem_append,List.mem_singleton];rintro (g | g)
    ·exact d g
    ·exact h g.symm
  ·refine .inr ⟨_,by rw[if_neg (by simp;omega)],(fun j e=>by cases e),.inr ⟨?_,_,rfl⟩⟩;rwa [List.take_of_length_le (by omega)] at d) ⟨rfl,by simp⟩ (kz (by omega))
 unfold Zs;rcases m with ⟨d,rfl⟩ | ⟨d,s,rfl⟩
 ·rw[bg e,if_pos d]
 ·rw[ah e,if_neg d]
theorem B8 {os:List (Option (List Int))} (h: ∀y,some y∈os->y.length=10): ∀y∈nbS [] os,y.length=10:=fun y b=>by
 rcases yy.1 b with b | b
 ·cases b
 ·exact h y b
theorem DR (a:AutT) (c:List Int): ∀y,some y∈keys a c->y.length=10:=by
 intro y b;obtain ⟨s,-,e⟩:=List.mem_map.1 b;unfold FC at e;split at e
 ·cases e
 ·rw[<-ae e];simp[FA]
section
variable (V:VA a n) (hn:n<=1000000) (hc:c.length=n)
include V hn hc
theorem KI (s:Nat):(nbS [] ((keys a c).take s)).length<=n:=by
 have:=rI ([] :List (List Int)) ((keys a c).take s)
 rw[aB,fB,V.len] at this;simp at this;omega
theorem Td {m:Int} :aq (gH a (c,m)) aT ([],[],0)=some (.brk (nbS [] (keys a c),DP a c,(n:Int))):=by
 have d:=V.len
 have:=aO (f:=gH a (c,m)) (fun s=>(nbS [] ((keys a c).take s),nbR [] ((keys a c).take s),(s:Int))) n (fun s g=>by
  have j:=KI V hn hc s;have i:(nbR [] ((keys a c).take s)).length<=n:=by rw[iM,aB,fB];omega
  unfold gH;simp only;rw[if_pos (by simp;omega),au (by omega) (by omega)];simp only[aa];rw[take_one (by rw[fB];omega),xi,ui,I7 (by omega)];simp only[af (show s<9223372036854775807 by omega)];by_cases h:nth c (s:Int)<0
  ·rw[if_pos (by simpa using h),ay (by simp;omega),show FC a c s=none from by unfold FC;rw[if_pos h]];rfl
  ·rw[if_neg (by simpa using h),show FC a c s=some (FA a c s) from by unfold FC;rw[if_neg h]];rw[show qA (a.1,a.2.1,a.2.2) c (s:Int)=some (FA a c s) from aa6 V hn hc g];simp only[aa];rw[ah (Zt (by omega) (tD (by simp)) (fun y b=>by rw[B8 (fun y b=>DR a c y (List.mem_of_mem_take b)) y b];decide))];simp only;unfold Zs;by_cases k:FA a c s∈nbS [] ((keys a c).take s)
   ·obtain ⟨q,o,e,l⟩:=qn k;rw[if_pos k,nT k,e,if_neg (by simp)];simp only[aa];rw[ay (by simp;omega)];rfl
   ·rw[if_neg k,nU k,Fb k,if_pos (show decide ((-1:Int)<0)=true from rfl),ay (by simp;omega)];simp only[aa];rw[ay (by simp;omega)];rfl) (by
  unfold gH;simp only;rw[if_neg (by simp;omega)]) (kz (by omega))
 rw[show (keys a c).take n=keys a c from List.take_of_length_le (by rw[fB];omega)] at this;exact this
theorem Te:eU a c=some (DP a c,(Cq a c:Int)):=by
 have d:=V.len;unfold eU
 have:=aO (f:=eY a c) (fun s=>(nbS [] ((keys a c).take s),nbR [] ((keys a c).take s),(s:Int))) n (fun s g=>by
  have j:=KI V hn hc s;have i:(nbR [] ((keys a c).take s)).length<=n:=by rw[iM,aB,fB];omega
  unfold eY;simp only;rw[if_pos (by simp;omega),au (by omega) (by omega)];simp only[aa];rw[take_one (by rw[fB];omega),xi,ui,I7 (by omega)];simp only[af (show s<9223372036854775807 by omega)];by_cases h:nth c (s:Int)<0
  ·rw[if_pos (by simpa using h),ay (by simp;omega),show FC a c s=none from by unfold FC;rw[if_pos h]];rfl
  ·rw[if_neg (by simpa using h),show FC a c s=some (FA a c s) from by unfold FC;rw[if_neg h],V.get (by omega) (by omega)];simp only[aa];rw[ah (aa7 V hn hc g)];simp only;rw[Zu (x:=FA a c s) (by omega) (fun y b=>by
    unfold iN;rw[B5 _ _ (by rw[B8 (fun y b=>DR a c y (List.mem_of_mem_take b)) y b];decide)];rfl)];simp only[aa]
   unfold Zs;by_cases k:FA a c s∈nbS [] ((keys a c).take s)
   ·obtain ⟨q,m,e,l⟩:=qn k;rw[if_pos k,nT k,e,if_neg (by simp)];simp only[aa];rw[ay (by simp;omega)];rfl
   ·rw[if_neg k,nU k,Fb k,if_pos (show decide ((-1:Int)<0)=true from rfl),ay (by simp;omega)];simp only[aa];rw[ay (by simp;omega)];rfl) (by
  unfold eY;simp only;rw[if_neg (by simp;omega)]) (kz (by omega))
 rw[show (keys a c).take n=keys a c from List.take_of_length_le (by rw[fB];omega)] at this;exact ah this
end
end
section
variable {a:AutT} {n:Nat} (V:VA a n) (hn:n<=1000000)
include V hn
theorem Ho (s:Nat):(List.range (s+1)).map (fun s:Nat=>if nth (live a) (s:Int)=true then (if nth a.2.1 (s:Int)=true then (1:Int) else 0) else -1)=(List.range s).map (fun s:Nat=>if nth (live a) (s:Int)=true then (if nth a.2.1 (s:Int)=true then 1 else 0) else -1)++ [if nth (live a) (s:Int)=true then (if nth a.2.1 (s:Int)=true then 1 else 0) else -1]:=by simp[List.range_succ]
theorem Zv:aq (gF a (live a)) aT ([],0)=some (.brk (UN a,(n:Int))):=by
 have b:=V.len;have c:(live a).length=n:=by rw[vS,b]
 have:=aO (f:=gF a (live a)) (fun s=>((List.range s).map (fun s:Nat=>if nth (live a) (s:Int)=true then (if nth a.2.1 (s:Int)=true then (1:Int) else 0) else -1),(s:Int))) n (fun s d=>by
  unfold gF;simp only;rw[if_pos (by simp;omega),V.acc (by omega) (by omega)];simp only[aa];rw[Ho V hn,au (xs:=live a) (by omega) (by omega)];simp only[af (show s<9223372036854775807 by omega)];cases nth (live a) (s:Int) <;> cases nth a.2.1 (s:Int) <;> simp only[if_true,if_false,Bool.false_eq_true,aa] <;> rw[ay (by simp;omega)] <;> rfl) (by
  unfold gF;simp only;rw[if_neg (by simp;omega)]) (kz (by omega))
 unfold UN;rw[b];exact this
theorem Zw:aq (df a (live a)) aT ([],0)=some (.brk (UN a,(n:Int))):=by
 have b:=V.len;have c:(live a).length=n:=by rw[vS,b]
 have:=aO (f:=df a (live a)) (fun s=>((List.range s).map (fun s:Nat=>if nth (live a) (s:Int)=true then (if nth a.2.1 (s:Int)=true then (1:Int) else 0) else -1),(s:Int))) n (fun s d=>by
  unfold df;simp only;rw[if_pos (by simp;omega),au (xs:=live a) (by omega) (by omega)];simp only[aa];rw[Ho V hn,V.acc (by omega) (by omega)];simp only[af (show s<9223372036854775807 by omega)];cases nth (live a) (s:Int) <;> cases nth a.2.1 (s:Int) <;> simp only[if_true,if_false,Bool.false_eq_true,aa] <;> rw[ay (by simp;omega)] <;> rfl) (by
  unfold df;simp only;rw[if_neg (by simp;omega)]) (kz (by omega))
 unfold UN;rw[b];exact this
theorem PV: ∃J,cI a (J+1)=cI a J/\j9 a=some (cI a J):=by
 have b:=V.len;unfold j9;rw[show mC (a.1,a.2.1,a.2.2)=some (live a) from UI V hn];simp only[aa];rw[ah (Zv V hn)];obtain ⟨d,l,c⟩:=Xd a;obtain ⟨o,e,j,rfl,i⟩:=b9 (f:=mD a) (fun j s=>s=(cI a j,(j:Int))/\j<=d) (fun o=> ∃j,o= .ret (cI a j)/\cI a (j+1)=cI a j) (d+1) (s:=(cI a 0,0)) (by
  rintro j s i ⟨rfl,p⟩;have g:(cI a j).length=n:=by rw[q8,b]
  unfold mD;simp only;rw[if_pos (by simp;omega),ah (Td V hn g)];simp only;obtain ⟨r,m,k⟩:=B4 (DP a (cI a j)) (cI a j) (by rw[B6];omega);rw[m];simp only[aa,af (show j<9223372036854775807 by omega)];by_cases h:DP a (cI a j)=cI a j
  ·exact .inr ⟨_,by rw[if_pos (by simpa using k.2 h)],(fun q e=>by cases e),j,rfl,h⟩
  ·refine .inl ⟨by omega,(cI a (j+1),((j+1:Nat):Int)),by rw[if_neg (by simpa using fun e=>h (k.1 e))];rfl,rfl,?_⟩;by_cases e:j=d
   ·subst e;exact absurd c h
   ·omega) ⟨rfl,Nat.zero_le _⟩ (kz (by omega))
 exact ⟨j,i,bg e⟩
theorem PW: ∃J,cI a (J+1)=cI a J/\eE a=some (cI a J):=by
 have b:=V.len;unfold eE;rw[show fX (a.1,a.2.1,a.2.2)=some (live a) from Zg V hn];simp only[aa];rw[ah (Zw V hn)];let c:Nat->Int:=fun j=>match j with | 0=> -1 | i+1=>(Cq a (cI a i):Int)
 obtain ⟨o,e,j,rfl,l⟩:=b9 (f:=gK a) (fun j s=>s=(cI a j,c j)/\(j:Int)<=c j+1) (fun o=> ∃j,o= .ret (cI a j)/\cI a (j+1)=cI a j) (n+2) (s:=(cI a 0,-1)) (by
  rintro j s l ⟨rfl,k⟩;have g:(cI a j).length=n:=by rw[q8,b]
  have p:=I8 a (cI a j);unfold gK;simp only;rw[show eU (a.1,a.2.1,a.2.2) (cI a j)=some (DP a (cI a j),(Cq a (cI a j):Int)) from Te V hn g];simp only[aa];cases j with
  | zero =>
   refine .inl ⟨by omega,(cI a 1,c 1),by rw[if_neg (by show¬((Cq a (cI a 0):Int) == -1)=true;simp)];rfl,rfl,?_⟩;show (1:Int)<=(Cq a (cI a 0):Int)+1;omega
  | succ i =>
   obtain ⟨r,m⟩:=PS a i;have d:c (i+1)=(Cq a (cI a i):Int):=rfl;rw[d] at k⊢;by_cases h:Cq a (cI a (i+1))=Cq a (cI a i)
   ·refine .inr ⟨.ret (cI a (i+2)),by rw[if_pos (by simp[h])];rfl,(fun q e=>by cases e),i+2,rfl,?_⟩
    have:=m h
    show DP a (cI a (i+2))=cI a (i+2);rw[this];exact this
   ·refine .inl ⟨?_,(cI a (i+2),c (i+2)),by rw[if_neg (by simp;omega)];rfl,rfl,?_⟩
    ·omega
    ·show ((i+1+1:Nat):Int)<=(Cq a (cI a (i+1)):Int)+1;omega) ⟨rfl,by show ((0:Nat):Int)<= -1+1;omega⟩ (kz (by omega))
 exact ⟨j,l,bg e⟩
theorem Mu: ∃c,j9 a=some c/\eE a=some c/\c.length=n/\DP a c=c/\ ∃j,c=cI a j:=by
 obtain ⟨J,d,e⟩:=PV V hn;obtain ⟨g,b,f⟩:=PW V hn
 have:=PU d b
 exact ⟨cI a J,e,by rw[this];exact f,by rw[q8,V.len],d,J,rfl⟩
end
section
variable {κ:Type} [DecidableEq κ] [Inhabited κ] {nx:κ->List (Option κ)} {first:κ} {G:κ->Prop} {B N:Nat} {acc:κ->Bool}
theorem B9: ∀(l:List κ) (os:List (Option κ)),∀t∈nbR l os,-1<=t/\t<((nbS l os).length:Int)
 | l,[] =>fun t a=>by cases a
 | l,o::os=>fun t a=>by
  have hp:=mP (nbL l o) os;have b:=hp.length_le;rcases aA a with rfl | a
  ·show -1<=nbI l o/\nbI l o<((nbS (nbL l o) os).length:Int);cases o with
   | none=>exact ⟨by simp[nbI],by simp only[nbI];omega⟩
   | some y =>
    by_cases c:y∈l
    ·obtain ⟨q,d,e,-⟩:=qn c;rw[nT c] at b;rw[e];exact ⟨by omega,by rw[nT c];omega⟩
    ·rw[nU c] at b;rw[Fb c];rw[az] at b;exact ⟨by omega,by rw[nU c];simp at b;omega⟩
  ·exact B9 (nbL l o) os t a
theorem Zx (H:NumOk nx first G B) (c:bfE nx first N):VA ((0,(bfS nx first N).map acc,bfR nx first N):AutT) N:=by
 have g:0<N:=by
  have:=Hi (nx:=nx) (first:=first) N
  have:=(List.getElem?_eq_some_iff.1 this).1
  have:=c.1;omega
 have key: ∀i,i<=N-> ∀r∈bfR nx first i,r.length=9/\ ∀t∈r,-1<=t/\t<(N:Int):=by
  intro i;induction i with
  | zero=>intro _ r a;cases a
  | succ i ih =>
   intro d r a;have b:=c.2 i (by omega);rw[xj b] at a;rcases aG a with a | a
   ·exact ih (by omega) r a
   ·obtain rfl:=ak a;refine ⟨by rw[iM,H.len _ (mb H.g0 H.gn i _ (List.getElem_mem b))],fun t e=>?_⟩
    have:=B9 _ _ t e
    rw[<-E4 b] at this;have f:=(yz (nx:=nx) (first:=first) d).length_le
    have:=c.1
    omega
 exact ⟨by show ((bfS nx first N).map acc).length=N;rw[List.length_map];exact c.1.symm,⟨Int.le_refl _,by show (0:Int)<N;omega⟩,lq c.2,fun r a=>(key N (aL _) r a).1,fun r a=>(key N (aL _) r a).2⟩
theorem PX (b: ∀x,(nx x).length=9) (d:bfE nx first N):VA ((0,(bfS nx first N).map acc,bfR nx first N):AutT) N:=by
 have h:0<N:=by
  have:=Hi (nx:=nx) (first:=first) N
  have:=(List.getElem?_eq_some_iff.1 this).1
  have:=d.1;omega
 have key: ∀i,i<=N-> ∀r∈bfR nx first i,r.length=9/\ ∀t∈r,-1<=t/\t<(N:Int):=by
  intro i;induction i with
  | zero=>intro _ r a;cases a
  | succ i ih =>
   intro e r a;have c:=d.2 i (by omega);rw[xj c] at a;rcases aG a with a | a
   ·exact ih (by omega) r a
   ·obtain rfl:=ak a;refine ⟨by rw[iM,b _],fun t f=>?_⟩
    have:=B9 _ _ t f
    rw[<-E4 c] at this;have g:=(yz (nx:=nx) (first:=first) e).length_le
    have:=d.1
    omega
 exact ⟨by show ((bfS nx first N).map acc).length=N;rw[List.length_map];exact d.1.symm,⟨Int.le_refl _,by show (0:Int)<N;omega⟩,lq d.2,fun r a=>(key N (aL _) r a).1,fun r a=>(key N (aL _) r a).2⟩
end
theorem VA.self {a:AutT} {n:Nat} (v:VA a n):VA a a.2.1.length:=by
 have e:=v.len;subst e;exact v
theorem Mv:VA nothing 1:=⟨rfl,⟨by decide,by decide⟩,rfl,fun r a=>by
 obtain rfl:=ak a
 decide,fun r a=>by
 obtain rfl:=ak a
 decide⟩
theorem Xe {l:List Int} {x:Int} (d:l.length<=1000000) (j:x∈l):be x l=some (nbI l (some x)):=by
 unfold be fI;have ⟨o,e,g⟩:=b9 (f:=eP l x) (fun k s=>s=(k:Int)/\x∉l.take k) (fun o=>o= .ret (nbI l (some x))) l.length (s:=0) (by
  rintro k s i ⟨rfl,c⟩;unfold eP;by_cases a:k<l.length
  ·rw[if_pos (by grind),au (by omega) (by omega)];simp only[aa];by_cases h:nth l (k:Int)=x
   ·grind[de,List.drop_eq_getElem_cons,List.take_append_drop,Hn,aB,Nat.min_eq_left]
   ·refine .inl ⟨a,_,by rw[if_neg (by grind)],by grind[af],?_⟩;rw[take_one a,List.mem_append,List.mem_singleton];rintro (b | b)
    ·exact c b
    ·exact h b.symm
  grind) ⟨rfl,by simp⟩ (kz (by omega))
 grind[bg]
section
variable {a:AutT} {n:Nat}
def rep (c:List Int) (x:Int):Int:=nbI c (some x)
theorem PY {c:List Int} {x:Int} (h:x∈c):0<=rep c x/\rep c x<c.length/\nth c (rep c x)=x:=by
 grind[qn,rep,de]
def ace (a:AutT) (n:Nat) (r:AutT):Prop:=(nth (live a) a.1=false/\r=nothing)\/(nth (live a) a.1=true/\ ∃(j:Nat) (c:List Int) (nx:Int->List (Option Int)) (ac:Int->Bool) (N:Nat),c=cI a j/\(∀r,good n (live a) r->nx (nth c r)=yD a c (live a) r)/\(∀r,good n (live a) r->ac (nth c r)=nth a.2.1 r)/\bfE nx (nth c a.1) N/\(∀x∈bfS nx (nth c a.1) N,(nx x).length=9)/\r=(0,(bfS nx (nth c a.1) N).map ac,bfR nx (nth c a.1) N))
theorem Mw (V:VA a n) (C:n<=1000000): ∃r,gI a=some r/\cX a=some r/\Data.sm r/\VA r r.2.1.length/\r.2.1.length<=n/\ace a n r:=by
 have S:=V.len;have q:=V.start;have Q:(live a).length=n:=by rw[vS,S]
 have ⟨c,es,ei,P,hfix,j,hj⟩:=Mu V C;have d: ∀s:Int,0<=s->s<n->(nth c s<0↔nth (live a) s=false):=fun s w W=>by
  have:=(DQ a (s:=s.toNat) (by omega) j).1
  grind
 have T: ∀s:Int,0<=s->s<n->nth c s<n:=fun s w W=>by
  have:=Xb (c:=c) (a:=a) (s:=s.toNat) (by omega)
  grind
 have u: ∀r,good n (live a) r->0<=nth c r:=fun r b=>by
  have:=d r b.1 b.2.1
  by_cases k:nth c r<0
  ·have:=this.1 k;rw[b.2.2] at this;grind
  ·omega
 have U: ∀r t:Int,0<=r->r<n->0<=t->t<n->0<=nth c r->nth c r=nth c t->FA a c r=FA a c t:=fun r t r0 r1 t0 t1 w h=>by
  have:=PR (a:=a) (c:=c) (s:=r.toNat) (t:=t.toNat) (by omega) (by omega) (by grind) (by grind)
  grind
 have I: ∀r t:Int,0<=r->r<n->0<=t->t<n->0<=nth c r->nth c r=nth c t->nth a.2.1 r=nth a.2.1 t:=fun r t r0 r1 t0 t1 w h=>by
  have:=UO a (s:=r.toNat) (t:=t.toNat) (by omega) (by omega) j (by rw[<-hj,show ((r.toNat:Nat):Int)=r from by omega];exact w) (by rw[<-hj,show ((r.toNat:Nat):Int)=r from by omega,show ((t.toNat:Nat):Int)=t from by omega];exact h)
  rwa [show ((r.toNat:Nat):Int)=r from by omega,show ((t.toNat:Nat):Int)=t from by omega] at this
 have i: ∀r,good n (live a) r->yD a c (live a) r=(List.range 9).map fun k=>if 0<=ent a c r k then some (ent a c r k) else none:=fun r b=>by
  refine List.map_congr_left fun k g=>?_;have g:=List.mem_range.1 g;have z:=V.mv b.1 b.2.1 g;unfold ent;by_cases h:mv a r k<0
  ·rw[if_pos h,if_neg (fun M=>by omega),if_neg (by omega)]
  ·rw[if_neg h]
   have:=d (mv a r k) (by omega) z.2
   cases X:nth (live a) (mv a r k) with
   | false =>
    grind
   | true =>
    grind
 have F: ∀r t:Int,FA a c r=FA a c t-> ∀k,k<9->ent a c r k=ent a c t k:=fun r t h k g=>by
  have h:(List.range 9).map (fun k=>ent a c r k)=(List.range 9).map (fun k=>ent a c t k):=by unfold FA at h;injection h
  simp_all
 let R:=fun x=>yD a c (live a) (rep c x);let acc:=fun x=>nth a.2.1 (rep c x);let G:=fun x=> ∃r,good n (live a) r/\nth c r=x;have B: ∀x,G x->x∈c/\0<=x/\good n (live a) (rep c x):=by
  rintro x ⟨r,b,rfl⟩;have z:=bT b.1 (by rw[P];exact b.2.1);have ⟨w,W,O⟩:=PY z;have hp:=u r b;refine ⟨z,hp,w,by omega,?_⟩
  have:=d (rep c (nth c r)) w (by omega)
  rw[O] at this;cases X:nth (live a) (rep c (nth c r)) with
  | true=>rfl
  | false=>grind
 have K: ∀r,good n (live a) r->R (nth c r)=yD a c (live a) r:=fun r b=>by
  have ⟨z,hp,o⟩:=B _ ⟨r,b,rfl⟩;have ⟨w,W,O⟩:=PY z;show yD a c (live a) (rep c (nth c r))=_;rw[i _ o,i _ b];refine List.map_congr_left fun k g=>?_;rw[F _ _ (U _ _ o.1 o.2.1 b.1 b.2.1 (by omega) O) k (List.mem_range.1 g)]
 have E: ∀r,good n (live a) r->acc (nth c r)=nth a.2.1 r:=fun r b=>by
  have ⟨z,hp,o⟩:=B _ ⟨r,b,rfl⟩;have ⟨w,W,O⟩:=PY z;exact I _ _ o.1 o.2.1 b.1 b.2.1 (by omega) O
 have Z: ∀r,good n (live a) r-> ∀y,some y∈yD a c (live a) r->G y:=fun r b y h=>by
  have ⟨k,g,e⟩:=List.mem_map.1 h;have g:k<9:=List.mem_range.1 g;split at e
  ·rename_i hc;exact ⟨mv a r k,⟨hc.1,(V.mv b.1 b.2.1 g).2,hc.2⟩,ae e⟩
  grind
 unfold gI cX;simp only[jX];rw[es,ei,UI V C];simp only[aa];rw[au q.1 (by omega)];simp only[aa];cases D:nth (live a) a.1 with
 | false =>
  have:=(d a.1 q.1 q.2).2 D
  rw[I5 V Q D,if_pos (by grind),PJ];exact ⟨nothing,rfl,rfl,Ms,Mv,V.pos,.inl ⟨D,rfl⟩⟩
 | true =>
  have A:good n (live a) a.1:=⟨q.1,q.2,D⟩;have hp:=u _ A;have H:NumOk R (nth c a.1) G n:=⟨⟨a.1,A,rfl⟩,fun x f y hy=>Z _ (B x f).2.2 y hy,fun x f=>by simp[R,yD],fun l hd h=>Mr n l hd fun x f=>by
   obtain ⟨r,b,rfl⟩:=h x f;exact ⟨u r b,T r b.1 b.2.1⟩⟩
  have ⟨N,J,e1⟩:=Zi (acc:=acc) V C P Q D H C K E;have m: ∀x,G x->be x c=some (rep c x):=fun x f=>Xe (by omega) (B x f).1;have ⟨N',Y,e2⟩:=Zh (most:=(c.length:Int)) (p2:=fun p=>dh p (a.1,a.2.1,a.2.2) (fun p=>be p c)) (p3:=fun p a1=>di p a1 (a.1,a.2.1,a.2.2) (fun p=>be p c) c) (acc:=acc) H C (by omega) (fun x f=>Zp C (B x f).2.1 (by
    obtain ⟨r,b,rfl⟩:=f;exact T r b.1 b.2.1)) (fun x f=>by
   show dh x (a.1,a.2.1,a.2.2) (fun p=>be p c)=_;unfold dh;simp only;rw[m x f];simp only[aa];rw[V.acc (B x f).2.2.1 (B x f).2.2.2.1];rfl) (fun x k f g=>by
   have ⟨z,hx0,o⟩:=B x f;have hm':=V.mv o.1 o.2.1 g;refine ⟨0,?_⟩;show di x k (a.1,a.2.1,a.2.2) (fun p=>be p c) c=_;unfold di;simp only;rw[m x f];simp[aa];rw[show bV (a.1,a.2.1,a.2.2) (rep c x) k=some (mv a (rep c x) k) from Ku V o.1 o.2.1 g];simp[aa];show _=some (match nth (yD a c (live a) (rep c x)) (k:Int) with | some y=>(y,true) | none=>(0,false));rw[KB g];by_cases h:mv a (rep c x) k<0
   ·rw[if_pos (by simpa using h),if_neg (fun M=>by omega)]
   ·rw[if_neg (by simpa using h),au (by omega) (by omega)];simp[aa];have L:=d (mv a (rep c x) k) (by omega) hm'.2;cases X:nth (live a) (mv a (rep c x) k) with
    | false =>
     have:=L.2 X
     rw[if_pos (by simpa using this),if_neg (fun M=>by cases M.2)]
    | true =>
     have: ¬nth c (mv a (rep c x) k)<0:=fun M=>by have:=L.1 M;rw[X] at this;cases this
     rw[if_neg (by simpa using this),if_pos ⟨by omega,rfl⟩])
  cases SU J Y;have v:=Zx (acc:=acc) H J;refine ⟨_,by rw[e1];rfl,?_,Zq H C J,v.self,?_,.inr ⟨D,j,c,R,acc,N,hj,K,E,J,fun x _=>by simp[R,yD],rfl⟩⟩
  rotate_left
  ·rw[v.len,J.1];exact H.bound _ (py N) (mb H.g0 H.gn N)
  simp_all
theorem Mx (V:VA a n) (b:n<=1000000): ∃r,gI a=some r/\cX a=some r/\Data.sm r/\VA r r.2.1.length/\r.2.1.length<=n:=by
 grind[Mw]
theorem Tf (V:VA a n) (b:n<=1000000): ∃r,gI a=some r/\cX a=some r/\Data.sm r:=by
 grind[Mx]
end
theorem I9 {κ:Type} [DecidableEq κ] {nx:κ->List (Option κ)} {first:κ} {acc:κ->Bool} {most:Nat} : ∀(f i:Nat),(∀j,j<i->j<(bfS nx first j).length)->(bfS nx first i).length<=most->goM nx first acc most f i=((0,[],[]),false)\/ ∃N,bfE nx first N/\N<=most/\goM nx first acc most f i=((0,(bfS nx first N).map acc,bfR nx first N),true)
 | 0,i,_,_=>.inl rfl
 | f+1,i,h,hl=>by
  have a:=PP h;rw[goM];by_cases c:i<(bfS nx first i).length
  ·rw[if_pos c];by_cases d:(bfS nx first (i+1)).length>most
   ·rw[if_pos d];exact .inl rfl
   ·rw[if_neg d];exact I9 f (i+1) (fun j b=>by
     by_cases e:j=i
     ·subst e;exact c
     ·exact h j (by omega)) (by omega)
  ·rw[if_neg c];exact .inr ⟨i,⟨by omega,h⟩,by omega,by rw[List.take_of_length_le (by omega)]⟩
theorem rJ:Data.sm ((0,[],[]):AutT):=⟨trivial,⟨by decide,fun _ h=>by cases h⟩,by decide,fun _ h=>by cases h⟩
theorem Hq {e:List Tok} (m:e.length<=1048576): ∃r:AutT×Bool,m_s_CompileExpr e=some r/\jm e=some r/\Data.sm r.1:=by
 obtain ⟨⟨p,b⟩,s,n,a,h⟩:=vT m;have a:p.2.2.2.1.length=p.1.length:=a;have h:p.1.length<=100000:=h;unfold m_s_CompileExpr jm;rw[s,n];simp only[aa,jX];cases b with
 | false=>exact ⟨((0,[],[]),false),rfl,rfl,rJ⟩
 | true =>
  have d:=Zn (p:=p) (most:=200) a (by omega) (by omega) (by omega);have f:=aa4 (p:=p) (most:=200) a (by omega) (by omega) (by omega);have d:fc p 200=_:=d;have f:jk p 200=_:=f;rw[d,f];simp only[if_true,aa];rcases I9 (nx:=nxS p) (first:=1) (acc:=tE p) (most:=200) (200+2) 0 (fun j t=>by omega) (by simp[bfS]) with e | ⟨N,l,o,e⟩
  ·rw[e];exact ⟨((0,[],[]),false),rfl,rfl,rJ⟩
  ·rw[e];simp only[if_true];have V:=PX (acc:=tE p) (B3 p) l;obtain ⟨r,k,q,i⟩:=Tf V (by omega);unfold Ba;rw[k];simp only[aa,jX];rw[q];simp only[aa,jX];by_cases c:(r.2.1.length:Int)>12
   ·have g:decide ((r.2.1.length:Int)>12)=true:=decide_eq_true c;simp only[g,if_true,aa];exact ⟨((0,[],[]),false),rfl,rfl,rJ⟩
   ·have g:decide ((r.2.1.length:Int)>12)=false:=decide_eq_false c;simp only[g,Bool.false_eq_true,if_false,aa];exact ⟨(r,true),rfl,rfl,i⟩
theorem Ca {e:List Tok} (a:e.length<=1048576): ∃r:AutT×Bool,m_s_CompileExpr e=some r/\jm e=some r/\Data.sm r.1:=Hq a
end D
open Go.ChangeShapes Go.WideShapes Go.ChangeAt Go.RowKit
theorem own:ownKnob Tryz.prog.godebug=none:=by kernel_rfl
theorem laidOut:laidOutB Tryz.prog=true:=by kernel_rfl
theorem xq {H:Type} {enc:TypeId×Value->H} {P:Program} (f:laidOutB P=true) {W g:World} (e:Below W.heap.size W g) :
  ∀ {a:List TypeId} {vs:List Value} {ds:List (DataW H)} {ps:List MemPlace},(∀t∈a,P.readableRec t=true/\t<P.types.size)->
   DataW.TrodAll enc P W 0 (fun _=>true) true a vs ds ps->(∀x∈ps,x.block<W.heap.size)->DataW.TrodAll enc P g 0 (fun b=>decide (b<W.heap.size)) true a vs ds ps
 | [],[],[],ps,_,h,_=>h
 | t::a,v::vs,d::ds,ps,hr,⟨p,q,h1,h2,h3⟩,hlt=>by
  subst h3;exact ⟨p,q,Below.trod f (hr t (by simp)).1 (hr t (by simp)).2 h1 e fun x c=>hlt x (by simp[c]),xq f e (fun t i=>hr t (by simp[i])) h2 fun x c=>hlt x (by simp[c]),rfl⟩
 | [],_::_,_,_,_,h,_=>h.elim
 | [],[],_::_,_,_,h,_=>h.elim
 | _::_,[],_,_,_,h,_=>h.elim
 | _::_,_::_,[],_,_,h,_=>h.elim
theorem Tg {H:Type} {enc:TypeId×Value->H} {f:Func} {s:ChangeSpec} {W j:World} {args:Array Value} {ds:List (DataW H)} {before:List MemPlace} (k:TypeId)
  (m:Tryz.prog.underlying k=some .bool) (n:f.resultTypes= #[k]) (hp:(f.params.toList.all fun t=>Tryz.prog.readableRec t&&decide (t<Tryz.prog.types.size))=true) (hv:s.vars= [])
  (u:DataW.Whole enc Tryz.prog f.params.toList s.vars false W args.toList ds [] before) (d:(s.fn H (ds++ [])).results= [.lit (.bool true)]) (b:(s.fn H (ds++ [])).args=ds) (c:(s.fn H (ds++ [])).vars= [])
  (a:Below W.heap.size W j):s.post enc Tryz.prog f false true false false W args (.bool true) j:=by
 obtain ⟨p,q,l,i,g,r,v⟩:=u;have e:DataW.Whole enc Tryz.prog f.params.toList s.vars false W args.toList ds [] before:=⟨p,q,l,i,g,r,v⟩;have o:q= []:=by rw[hv] at i;exact i
 subst o;simp only[List.append_nil] at g;subst g;refine ⟨ds,[],before,[],before,[],e,?_,?_,?_,a.frame _,fun h=>by cases h⟩
 ·rw[d,n];exact trodAll_mk1 (shut_bool m true)
 ·rw[b];exact xq laidOut a (fun t w=>by have:=List.all_eq_true.1 hp t w;simpa using this) l fun x y=>by simpa using e.lt x y
 ·rw[c,hv];rfl
namespace D
open Go.RowKit
theorem vU (x y:AutT) (n:Data.sm x):gJ x y=some (decide (x=y)):=by
 obtain ⟨-,⟨p,-⟩,o,m⟩:=n;unfold gJ;by_cases b:x.1=y.1
 case neg=>rw[if_pos (by simpa using b)];simp[Prod.ext_iff,b]
 rw[if_neg (by simpa using b)];by_cases k:x.2.1.length=y.2.1.length
 case neg=>rw[if_pos (by simp;omega)];simp[Prod.ext_iff];exact fun _ e=>absurd (by rw[e]) k
 rw[if_neg (by simp;omega)];by_cases l:x.2.2.length=y.2.2.length
 case neg=>rw[if_pos (by simp;omega)];simp[Prod.ext_iff];exact fun _ _ e=>absurd (by rw[e]) l
 rw[if_neg (by simp;omega)];rw[eqB (f:=gz x y) x.2.1 y.2.1 (by omega) k (fun i h j=>by
  simp only[gz,cH h,if_true,aI h,aI j,aa,af (show i<9223372036854775807 by omega)];by_cases c:x.2.1[i] =y.2.1[i] <;> simp[c]) (by simp only[gz,cj];rfl)]
 by_cases g:x.2.1=y.2.1
 case neg=>rw[if_neg g];simp[Prod.ext_iff,g]
 rw[if_pos g];rw[eqB (f:=gA x y) x.2.2 y.2.2 (by omega) l (fun i h j=>by
  obtain ⟨r,e,a⟩:=B4 x.2.2[i] y.2.2[i] ((m _ (List.getElem_mem h)).1);simp only[gA,cH h,if_true,aI h,aI j,aa,af (show i<9223372036854775807 by omega),e];by_cases c:x.2.2[i] =y.2.2[i]
  ·rw[if_neg (by simpa using a.2 c),if_pos c]
  ·rw[if_pos (by simpa using fun e=>c (a.1 e)),if_neg c]) (by simp only[gA,cj];rfl)]
 by_cases d:x.2.2=y.2.2
 ·rw[if_pos d];simp[Prod.ext_iff,b,g,d]
 ·rw[if_neg d];simp[Prod.ext_iff,d]
theorem Ti (xs ys:List Bool) (b:xs.length<=9223372036854775807):eZ xs ys=some (decide (xs=ys)):=
 eqL (f:=cJ xs ys) xs ys b (fun i h a=>by
  simp only[cJ,cH h,if_true,aI h,aI a,aa,af (show i<9223372036854775807 by omega)];by_cases c:xs[i] =ys[i] <;> simp[c]) (by simp only[cJ,cj];rfl)
theorem Cb (x y:AutT) (j:Data.sm x):fl x y=some (decide (x=y)):=by
 obtain ⟨-,⟨n,-⟩,m,e⟩:=j;unfold fl;by_cases b:x.1=y.1
 case neg=>rw[if_neg (by simpa using b)];simp[Prod.ext_iff,b]
 rw[if_pos (by simpa using b),Ti _ _ (by omega)];simp only[aa];by_cases a:x.2.1=y.2.1
 case neg=>rw[if_neg (by simpa using a)];simp[Prod.ext_iff,a]
 rw[if_pos (by simpa using a)]
 have:bG x.2.2 y.2.2 (fun g k=>iq g k)=some (decide (x.2.2=y.2.2)):=
  eqL (f:=bc x.2.2 y.2.2 _) x.2.2 y.2.2 (by omega) (fun i h d=>by
   simp only[bc,cH h,if_true,aI h,aI d,aa,af (show i<9223372036854775807 by omega),iq];rw[B5 _ _ (by have:x.2.2[i].length<=1048576:=(e _ (List.getElem_mem h)).1;omega)];simp only[aa];by_cases c:x.2.2[i] =y.2.2[i] <;> simp[c]) (by simp only[bc,cj];rfl)
 rw[this];by_cases l:x.2.2=y.2.2 <;> simp[Prod.ext_iff,b,a,l]
abbrev QT:=Int×List Tok×Int
abbrev pB:=List AutT×List QT
theorem Tj (x y:List Tok) (b:x.length<=1048576):qg x y=some (decide (x=y)):=by
 exact eqL (f:=jO x y) x y (by omega) (fun i h a=>by
  simp[jO,cH h,if_true,aI h,aI a,aa,jX,af (show i<9223372036854775807 by omega)];grind) (by simp_all[jO,cj])
theorem PZ (x y:List Tok) (b:x.length<=1048576):eF x y=some (decide (x=y)):=by
 exact eqL (f:=ct x y) x y (by omega) (fun i h a=>by
  simp[ct,cH h,if_true,aI h,aI a,aa,jX,af (show i<9223372036854775807 by omega)];grind) (by simp_all[ct,cj])
theorem Tk (x y:List Tok) (a:x.length<=1048576):nc x y=some (decide (x=y)):=by
 grind[nc,PZ]
theorem xr (x y:pB) (j:Data.sm x):il x y=some (decide (x=y)):=by
 have ⟨⟨k,g⟩,l,d⟩:=j;unfold il;by_cases b:x.1.length=y.1.length
 ·by_cases c:x.2.length=y.2.length
  ·rw[eqB (f:=fD x y) x.1 y.1 (by omega) b (fun i h a=>by
    simp[fD,cH h,if_true,aI h,aI a,aa,jX,vU x.1[i] y.1[i] (g _ (List.getElem_mem h)),af (show i<9223372036854775807 by omega)];grind) (by simp only[fD,cj];rfl)]
   rw[eqB (f:=fE x y) x.2 y.2 (by omega) c (fun i h a=>by
    have e:=Tj x.2[i].2.1 y.2[i].2.1 (d _ (List.getElem_mem h)).2.1.1;simp[fE,cH h,if_true,aI h,aI a,aa,e,af (show i<9223372036854775807 by omega)];grind) (by simp only[fE,cj];rfl)]
   grind[Prod.ext_iff]
  ·have:x.2≠y.2:=fun e=>c (by rw[e])
   rw[if_neg (by grind),if_pos (by grind)];simp[Prod.ext_iff,this]
 ·have:x.1≠y.1:=fun e=>b (by rw[e])
  rw[if_pos (by grind)];simp[Prod.ext_iff,this]
theorem My (x y:QT) (d:Data.sm x):iE x y=some (decide (x=y)):=by
 unfold iE;rw[Tk x.2.1 y.2.1 d.2.1.1];by_cases b:x.1=y.1 <;> by_cases a:x.2.1=y.2.1 <;> by_cases c:x.2.2=y.2.2 <;> simp[Prod.ext_iff,b,a,c]
theorem Ff (x y:pB) (l:Data.sm x):ir x y=some (decide (x=y)):=by
 have ⟨⟨n,k⟩,o,d⟩:=l;unfold ir;have e:a8 x.1 y.1 (fun b c=>fl b c)=some (decide (x.1=y.1)):=
  eqL (f:=aQ x.1 y.1 _) x.1 y.1 (by omega) (fun i h a=>by
   simp[aQ,cH h,if_true,aI h,aI a,aa,jX,af (show i<9223372036854775807 by omega),Cb x.1[i] y.1[i] (k _ (List.getElem_mem h))];grind) (by simp only[aQ,cj];rfl)
 have m:aY x.2 y.2 (fun b c=>iE b c)=some (decide (x.2=y.2)):=
  eqL (f:=aM x.2 y.2 _) x.2 y.2 (by omega) (fun i h a=>by
   simp[aM,cH h,if_true,aI h,aI a,aa,jX,af (show i<9223372036854775807 by omega),My x.2[i] y.2[i] (d _ (List.getElem_mem h))];grind) (by simp only[aM,cj];rfl)
 rw[e,m];by_cases g:x.1=y.1 <;> by_cases j:x.2=y.2 <;> simp[Prod.ext_iff,g,j]
theorem yE {R S:Type} {f g:S->Option (Out R S)} (Inv:Nat->S->Prop) (h: ∀i s,Inv i s->g s=f s/\ ∀a,f s=some (.nxt a)->Inv (i+1) a): ∀(k i:Nat) (s:S),Inv i s->aq g k s=aq f k s
 | 0,_,_,_=>rfl
 | k+1,i,s,hI=>by
  have ⟨c,b⟩:=h i s hI;rw[aq,aq,c];cases e:f s with
  | none=>rfl
  | some o =>
   cases o with
   | nxt a=>exact yE Inv h k (i+1) a (b a e)
   | brk a=>rfl
   | ret r=>rfl
theorem KJ {f g:Int->Option (Out Int Int)} (N:Nat) (j:N<=1048576) (h: ∀i:Nat,i<N->f (i:Int)=some (.ret (i:Int))\/f (i:Int)=some (.nxt ((i+1:Nat):Int))) (k:f (N:Int)=some (.brk (N:Int))) (c: ∀i:Nat,i<=N->g (i:Int)=f (i:Int)) :
  ∃r:Int,aN (aq f aT 0) (fun r=>some r) (fun _=>some (-1))=some r/\aN (aq g aT 0) (fun r=>some r) (fun _=>some (-1))=some r/\(r= -1\/ ∃i:Nat,i<N/\r=(i:Int)):=by
 have b:aq g aT 0=aq f aT 0:=yE (fun i s=>s=(i:Int)/\i<=N) (fun i s ⟨e,a⟩=>by
  grind) aT 0 0 ⟨rfl,Nat.zero_le _⟩
 rw[b];have ⟨o,e,d⟩:=b9 (f:=f) (fun i s=>s=(i:Int)) (fun o=>o= .brk (N:Int)\/ ∃i:Nat,i<N/\o= .ret (i:Int)) N (fun i s a b=>by
  grind) (s:=0) rfl (gx _ (by omega))
 rw[e];rcases d with rfl | ⟨i,a,rfl⟩
 ·exact ⟨-1,rfl,rfl,.inl rfl⟩
 ·exact ⟨i,rfl,rfl,.inr ⟨i,a,rfl⟩⟩
theorem Mz (l:List AutT) (a:AutT) (b:l.length<=1048576) (hs: ∀x∈l,Data.sm x) (c:Data.sm a): ∃r:Int,fT l a=some r/\bw l (fun d=>nq d a)=some r/\(r= -1\/ ∃i:Nat,i<l.length/\r=(i:Int)):=by
 have f: ∀i (h:i<l.length),eu l a (i:Int)=if l[i] =a then some (.ret (i:Int)) else some (.nxt ((i+1:Nat):Int)):=fun i h=>by
  simp[eu,cH h,if_true,aI h,aa,jX,vU l[i] a (hs _ (List.getElem_mem h)),af (show i<9223372036854775807 by omega)];grind
 refine KJ l.length b (fun i h=>?_) (by simp only[eu,cj];rfl) (fun i e=>?_)
 ·grind
 ·by_cases h:i<l.length
  ·simp[bQ,nq,cH h,if_true,aI h,aa,jX,Cb a l[i] c,af (show i<9223372036854775807 by omega)];grind
  ·obtain rfl:i=l.length:=by omega
   simp_all[eu,bQ,cj]
def Ja (n i:Nat) (s:Int×List AutT×List QT):Prop:=s.1=(i:Int)/\i<=n/\s.2.2.length=i/\s.2.1.length<=i/\(∀a∈s.2.1,Data.sm a)/\ ∀q∈s.2.2,Data.sm q/\0<=q.2.2/\q.2.2<(s.2.1.length:Int)
theorem KK {b:List QT} (u:Data.sm b) {i:Nat} {s:Int×List AutT×List QT} (F:Ja b.length i s):lM b s=br b s /\
  ((i<b.length/\ ∃s',br b s=some (.nxt s')/\Ja b.length (i+1) s')\/ ∃o,br b s=some o/\(∀s',o≠ .nxt s')/\(o= .ret (([],[]),false)\/o= .brk s/\i=b.length)):=by
 have ⟨M,p⟩:=bd u;have ⟨S,A,Q⟩:=s;have ⟨m,R,C,z,h,n⟩:=F;simp only at m C z h n;subst m;by_cases g:i<b.length
 ·have d:=p _ (List.getElem_mem g);have ⟨r,x,D,t⟩:=Ca (e:=b[i].2.1) d.2.1.1;have ⟨k,I,H,B⟩:=Mz A r.1 (by omega) h t;have E:bM 56 A [r.1] =some (A++ [r.1]):=ay (by grind);have w: ∀y,bM 40 Q [y] =some (Q++ [y]):=fun y=>ay (by grind);have K:fN b[i].2.1=some b[i].2.1:=by unfold fN;rw[ay (by have:=d.2.1.1;grind)];rfl
  have v:nr b[i].2.1=some b[i].2.1:=by unfold nr;rw[ay (by have:=d.2.1.1;grind)];rfl
  unfold lM br;simp[cH g,if_true,aI g,aa,x,D,E5,I0,jX,I,H,E,w,K,v,af (show i<9223372036854775807 by omega)];by_cases N:r.2=true
  case neg =>
   simp_all
  by_cases L:1<=b[i].1/\b[i].1<=99
  case neg =>
   grind
  have fin: ∃s':Int×List AutT×List QT,(∀(y:Option (Out (pB×Bool) (Int×List AutT×List QT))),True)/\(Option.bind (if decide (k<0) then some ((A.length:Int),A++ [r.1],Q) else some (k,A,Q)) fun f:Int×List AutT×List QT=>(bM 40 f.2.2 [(b[i].1,b[i].2.1,f.1)]).bind fun l=>some (.nxt (((i+1:Nat):Int),f.2.1,l)):Option (Out (pB×Bool) (Int×List AutT×List QT)))=some (.nxt s')/\Ja b.length (i+1) s':=by
   rcases B with rfl | ⟨j,P,rfl⟩
   ·refine ⟨(((i+1:Nat):Int),A++ [r.1],Q++ [(b[i].1,b[i].2.1,(A.length:Int))]),fun _=>trivial,?_,rfl,g,by grind,by grind,fun a O=>?_,fun q c=>?_⟩
    ·grind
    ·grind
    ·simp[List.mem_append,List.mem_singleton] at c;rcases c with c | rfl
     ·grind
     ·exact ⟨⟨trivial,d.2.1,trivial⟩,by simp,by grind⟩
   ·refine ⟨(((i+1:Nat):Int),A,Q++ [(b[i].1,b[i].2.1,(j:Int))]),fun _=>trivial,?_,rfl,g,by grind,by grind,h,fun q c=>?_⟩
    ·grind
    ·simp[List.mem_append,List.mem_singleton] at c;rcases c with c | rfl
     ·grind
     ·exact ⟨⟨trivial,d.2.1,trivial⟩,by simp,by grind⟩
  by_cases J:(i:Int)>0
  ·have hp:i - 1<b.length:=by omega
   have G:i64.wrap ((i:Int) - 1)=((i - 1:Nat):Int):=by rw[nF (by omega)];omega
   simp[J,decide_true,if_true,G,aI hp,aa];grind
  grind
 ·obtain rfl:i=b.length:=by omega
  simp_all[lM,br,cj,Bool.false_eq_true,if_false,trivial]
def Zy (r:pB):Prop:=Data.sm r/\ ∀q∈r.2,0<=q.2.2/\q.2.2<(r.1.length:Int)
theorem Ai {a:List QT} (g:Data.sm a): ∃r:pB,∃b:Bool,cA a=(if (a.length:Int)>4 then some (([],[]),false) else some (r,b))/\ua a=some (r,b&&decide ((a.length:Int)<=4))/\Zy r:=by
 have u:=(bd g).1;have j:Ja a.length 0 (0,[],[]):=⟨rfl,Nat.zero_le _,rfl,aL _,fun _ h=>(by cases h),fun _ h=>(by cases h)⟩;have l:aq (lM a) aT (0,[],[])=aq (br a) aT (0,[],[]):=yE (Ja a.length) (fun i s c=>by
  have ⟨e,h⟩:=KK g c;grind) aT 0 _ j
 have ⟨o,e,p⟩:=b9 (f:=br a) (Ja a.length) (fun o=>o= .ret (([],[]),false)\/ ∃A Q,o= .brk ((a.length:Int),A,Q)/\Ja a.length a.length ((a.length:Int),A,Q)) a.length (fun i s v c=>by
  rcases (KK g c).2 with h | ⟨o,e,t,h⟩
  ·grind
  ·rcases h with h | ⟨h,rfl⟩
   ·grind
   ·have ⟨w,A,Q⟩:=s;obtain ⟨rfl,-⟩:=id c;grind) j (gx _ (by omega))
 unfold cA ua;rw[l,e];rcases p with rfl | ⟨A,Q,rfl,-,-,n,m,k,d⟩
 ·refine ⟨([],[]),false,?_,rfl,⟨⟨Nat.zero_le _,fun _ h=>(by cases h)⟩,Nat.zero_le _,fun _ h=>(by cases h)⟩,fun _ h=>(by cases h)⟩;grind[aN]
 ·simp only at n m k d;refine ⟨(A,Q),true,?_,by rfl,⟨⟨show A.length<=1048576 by omega,k⟩,show Q.length<=1048576 by omega,fun q h=>(d q h).1⟩,fun q h=>(d q h).2⟩;grind[aN]
theorem q9 {r:pB} (g:Data.sm r): ∃b,bI r=some b/\cE r=some b/\(b=true->Zy r):=by
 have ⟨x,b,d,f,a⟩:=Ai g.2;unfold bI cE;rw[d,f];by_cases c:(r.2.length:Int)>4
 ·exact ⟨false,by simp[c],by grind,fun e=>by cases e⟩
 ·have h:(r.2.length:Int)<=4:=by omega
  cases b with
  | false=>exact ⟨false,by simp[c],by simp,fun e=>by cases e⟩
  | true =>
   simp[c,if_false,aa,if_true,h,decide_true,Bool.and_true,jX,xr x r a.1,Ff x r a.1];grind
theorem Jb (a:AutT) (c:Data.sm a):oY a=some a:=by
 obtain ⟨-,⟨h,-⟩,j,g⟩:=c;unfold oY;rw[ay (by simp;omega)];simp only[aa,List.nil_append]
 have:=aO (f:=ke a) (fun i=>((i:Int),a.1,a.2.1,a.2.2.take i)) a.2.2.length (fun i b=>by
  unfold ke;have d:bM 8 ([] :List Int) a.2.2[i] =some a.2.2[i]:=by rw[ay (by have:a.2.2[i].length<=1048576:=(g _ (List.getElem_mem b)).1;simp;omega)];rfl
  simp only[cH b,if_true,aI b,aa,d,af (show i<9223372036854775807 by omega)];rw[ay (by simp;omega)];simp only[aa];rw[List.take_succ_eq_append_getElem b]) (by
  unfold ke;simp only[cj,Bool.false_eq_true,if_false]) (gx _ (by omega))
 have e:aq (ke a) aT (0,a.1,a.2.1,[])=_:=this;rw[e];simp only[aN,List.take_length]
theorem Xf (a:AutT) (c:Data.sm a):jS a=some a:=by
 obtain ⟨-,⟨h,-⟩,j,g⟩:=c;unfold jS;rw[ay (by simp;omega)];simp only[aa,List.nil_append]
 have:=aO (f:=eV a) (fun i=>((i:Int),a.1,a.2.1,a.2.2.take i)) a.2.2.length (fun i b=>by
  unfold eV jn;have d:bM 8 ([] :List Int) a.2.2[i] =some a.2.2[i]:=by rw[ay (by have:a.2.2[i].length<=1048576:=(g _ (List.getElem_mem b)).1;simp;omega)];rfl
  simp only[cH b,if_true,aI b,aa,d,af (show i<9223372036854775807 by omega)];rw[ay (by simp;omega)];simp only[aa];rw[List.take_succ_eq_append_getElem b]) (by
  unfold eV;simp only[cj,Bool.false_eq_true,if_false]) (gx _ (by omega))
 have e:aq (eV a) aT (0,a.1,a.2.1,[])=_:=this;rw[e];simp only[aN,List.take_length]
theorem tG (r:pB) (id:Int) (d:r.2.length<=1048576): ∃k:Int,fS r id=some k/\jR r id=some k/\(k= -1\/ ∃i:Nat,i<r.2.length/\k=(i:Int)):=by
 unfold fS jR bX;have a: ∀i (h:i<r.2.length),fM r id (i:Int)=if r.2[i].1=id then some (.ret (i:Int)) else some (.nxt ((i+1:Nat):Int)):=fun i h=>by
  simp only[fM,cH h,if_true,aI h,aa,af (show i<9223372036854775807 by omega)];by_cases c:r.2[i].1=id <;> simp[c]
 obtain ⟨k,b,e,h⟩:=KJ (f:=fM r id) (g:=bj r.2 fun j=>lN j id) r.2.length d (fun i h=>by
  rw[a i h];by_cases c:r.2[i].1=id <;> simp[c]) (by simp only[fM,cj];rfl) (fun i l=>by
  by_cases h:i<r.2.length
  ·rw[a i h];simp only[bj,lN,cH h,if_true,aI h,aa,af (show i<9223372036854775807 by omega)];by_cases c:r.2[i].1=id <;> simp[c]
  ·obtain rfl:i=r.2.length:=by omega
   simp only[fM,bj,cj];rfl)
 refine ⟨k,b,?_,h⟩;rw[e];rfl
theorem MA {r:pB} (e:Data.sm r) (id:Int): ∃x:AutT×Bool,cV r id=some x/\fY r id=some x/\Data.sm x.1:=by
 obtain ⟨k,o,n,a⟩:=tG r id (bd e.2).1;obtain ⟨b,l,p,hv⟩:=q9 e;unfold cV fY;simp only[o,n,l,p,aa,jX];rcases a with rfl | ⟨i,f,rfl⟩
 ·refine ⟨((0,[],[]),false),?_,?_,rJ⟩
  ·cases b <;> rfl
  ·rfl
 ·have a:decide ((i:Int)<0)=false:=by simp
  cases b with
  | false=>exact ⟨((0,[],[]),false),by simp[a],by simp[a],rJ⟩
  | true =>
   obtain ⟨h,j⟩:=hv rfl;obtain ⟨g,d⟩:=j _ (List.getElem_mem f);have m:aP r.1 r.2[i].2.2=some (nth r.1 r.2[i].2.2):=au g d;have c:Data.sm (nth r.1 r.2[i].2.2):=(bd h.1).2 _ (bT g d);simp only[if_true,a,Bool.false_eq_true,if_false,aI f,aa,m,jX,Jb _ c,Xf _ c];exact ⟨_,rfl,rfl,c⟩
abbrev GrT:=(List Int)×(List Yq1)
theorem MB {R:Type} {f:Int->Option (Out R Int)} (N:Nat) (p:Nat->Prop) [DecidablePred p] (r:R) (g:N<=9223372036854775807)
  (h: ∀i:Nat,i<N->f (i:Int)=some (if p i then .nxt ((i+1:Nat):Int) else .ret r)) (k:f (N:Int)=some (.brk (N:Int))) :
  (aq f aT 0=some (.brk (N:Int))/\ ∀i,i<N->p i)\/(aq f aT 0=some (.ret r)/\ ¬ ∀i,i<N->p i):=by
 obtain ⟨o,e,a⟩:=b9 (f:=f) (fun i s=>s=(i:Int)/\ ∀j:Nat,j<i->p j) (fun o=>(o= .brk (N:Int)/\ ∀i,i<N->p i)\/(o= .ret r/\ ¬ ∀i,i<N->p i)) N (s:=0) (by
  rintro i s m ⟨rfl,hp⟩;by_cases b:i<N
  ·by_cases c:p i
   ·refine .inl ⟨b,_,by rw[h i b,if_pos c],rfl,fun j n=>?_⟩;by_cases e:j=i
    ·subst e;exact c
    ·exact hp j (by omega)
   ·exact .inr ⟨_,by rw[h i b,if_neg c],(fun d e=>by cases e),.inr ⟨rfl,fun l=>c (l i b)⟩⟩
  ·obtain rfl:i=N:=by omega
   exact .inr ⟨_,k,(fun d e=>by cases e),.inl ⟨rfl,hp⟩⟩) ⟨rfl,by omega⟩ (kz g)
 rcases a with ⟨rfl,a⟩ | ⟨rfl,a⟩
 ·exact .inl ⟨e,a⟩
 ·exact .inr ⟨e,a⟩
structure GOk (g:GrT):Prop where
 n1:1<=g.1.length
 n5:g.1.length<=5
 m:g.2.length<=12
 val: ∀v∈g.1,0<=v/\v<=2
 edge: ∀e∈g.2,(0<=e.2.1/\e.2.1<g.1.length)/\(0<=e.2.2.1/\e.2.2.1<g.1.length)/\0<=e.2.2.2/\e.2.2.2<=2
 asc: ∀i:Nat,i+1<g.2.length->(nth g.2 i).1<(nth g.2 ((i+1:Nat):Int)).1
def edgeP (e:Int×Int×Int×Int) (n:Int):Prop:=(1<=e.1/\e.1<=99)/\(0<=e.2.1/\e.2.1<=n - 1)/\(0<=e.2.2.1/\e.2.2.1<=n - 1)/\0<=e.2.2.2/\e.2.2.2<=2
instance (e n):Decidable (edgeP e n):=by unfold edgeP;infer_instance
theorem UP (e:Int×Int×Int×Int) {n:Nat} (d:n<=1048576):oD e (n:Int)=some (decide (edgeP e n)):=by
 unfold oD edgeP;simp only[I0,aa,nF (show n<=9223372036854775807 by omega)];by_cases b:1<=e.1/\e.1<=99 <;> by_cases a:0<=e.2.1/\e.2.1<=(n:Int) - 1 <;> by_cases c:0<=e.2.2.1/\e.2.2.1<=(n:Int) - 1 <;> simp[b,a,c]
def Zz (g:GrT):Prop:=GOk g/\ ∀e∈g.2,1<=e.1/\e.1<=99
theorem rK (g:GrT) (h1:g.1.length<=1048576) (B:g.2.length<=1048576): ∃b,a7 g=some b/\(b=true↔Zz g):=by
 unfold a7;have l:=MB (f:=fq g) g.1.length (fun i=>0<=nth g.1 i/\nth g.1 i<=2) false (by omega) (fun i a=>by
  unfold fq;rw[if_pos (by simp;omega),au (by omega) (by omega)];simp only[aa,I0,decide_eq_true_eq];split
  ·rw[af (by omega)]
  ·rfl) (by unfold fq;rw[if_neg (by simp)])
 have k:=MB (f:=dK g) g.2.length (fun i=>edgeP (nth g.2 i) g.1.length/\(0<i->(nth g.2 ((i:Int) - 1)).1<(nth g.2 i).1)) false (by omega) (fun i a=>by
  unfold dK;rw[if_pos (by simp;omega),au (by omega) (by omega)];simp only[aa];have m:=UP (nth g.2 (i:Int)) h1;have m:oD ((nth g.2 (i:Int)).1,(nth g.2 (i:Int)).2.1,(nth g.2 (i:Int)).2.2.1,(nth g.2 (i:Int)).2.2.2) (g.1.length:Int)=_:=m;rw[m];simp only[aa,decide_eq_true_eq];by_cases d:edgeP (nth g.2 (i:Int)) g.1.length
  ·rw[if_pos d];by_cases q:0<i
   ·rw[if_pos (by omega),nF (by omega),au (by omega) (by omega)];simp only[aa];by_cases s:(nth g.2 ((i:Int) - 1)).1<(nth g.2 (i:Int)).1
    ·rw[if_neg (by omega),if_pos ⟨d,fun _=>s⟩,af (by omega)]
    ·rw[if_pos (by omega),if_neg (fun h=>s (h.2 q))]
   ·rw[if_neg (by omega),if_pos ⟨d,fun h=>absurd h q⟩,af (by omega)]
  ·rw[if_neg d,if_neg (fun h=>d h.1)]) (by unfold dK;rw[if_neg (by simp)])
 rcases l with ⟨l,o⟩ | ⟨l,o⟩
 ·rw[ah l];rcases k with ⟨k,j⟩ | ⟨k,j⟩
  ·rw[ah k,I0];simp only[aa,decide_eq_true_eq];split
   ·rename_i c;refine ⟨_,rfl,fun p=>?_,fun G=>decide_eq_true (by have:=G.1.m;omega)⟩;have p:=of_decide_eq_true p;refine ⟨⟨by omega,by omega,by omega,fun v hv=>?_,fun e n=>?_,fun i a=>?_⟩,fun e n=>?_⟩
    rotate_left 3
    ·obtain ⟨i,a,rfl⟩:=BW n;exact (j i a).1.1
    ·obtain ⟨i,a,rfl⟩:=BW hv;exact o i a
    ·obtain ⟨i,a,rfl⟩:=BW n;obtain ⟨C,w,z,u⟩:=(j i a).1;exact ⟨⟨w.1,by omega⟩,⟨z.1,by omega⟩,u⟩
    ·have:=(j (i+1) a).2 (by omega)
     rwa [show (((i+1:Nat):Int) - 1)=(i:Int) from by omega] at this
   ·rename_i c;exact ⟨false,rfl,(fun h=>by cases h),fun G=>absurd (by have:=G.1.n1;have:=G.1.n5;omega) c⟩
  ·rw[bg k];refine ⟨false,rfl,(fun h=>by cases h),fun G=>absurd (fun i a=>?_) j⟩;have r:=bT (xs:=g.2) (i:=(i:Int)) (by omega) (by omega);obtain ⟨m,x,y,t⟩:=G.1.edge _ r;refine ⟨⟨G.2 _ r,⟨m.1,by omega⟩,⟨x.1,by omega⟩,y,t⟩,fun A=>?_⟩
   have:=G.1.asc (i - 1) (by omega)
   rwa [show ((i - 1:Nat):Int)=(i:Int) - 1 from by omega,show (((i - 1)+1:Nat):Int)=(i:Int) from by omega] at this
 ·rw[bg l];exact ⟨false,rfl,(fun h=>by cases h),fun G=>absurd (fun i a=>G.1.val _ (bT (by omega) (by omega))) o⟩
theorem KL (g:GrT) (h1:g.1.length<=1048576) (a:g.2.length<=1048576): ∃b,a7 g=some b/\(b=true->GOk g):=by
 obtain ⟨b,h1,a⟩:=rK g h1 a;exact ⟨b,h1,fun h=>(a.1 h).1⟩
theorem GOk.lt {g:GrT} (G:GOk g) {i j:Nat} (h:i<j) (a:j<g.2.length):(nth g.2 (i:Int)).1<(nth g.2 (j:Int)).1:=by
 induction h with
 | refl=>exact G.asc i a
 | step h ih =>
  rename_i m;have c:=ih (by omega);have b:=G.asc m a;exact Int.lt_trans c b
theorem xt (m:Nat):BitVec.ofInt 64 (m:Int)=BitVec.ofNat 64 m:=by simp
theorem P0 {m n:Nat} (b:m<2 ^ 62) (a:n<2 ^ 62):qp (m:Int) (n:Int)=((m &&& n:Nat):Int):=by
 unfold qp;rw[xt,xt,BitVec.toNat_and,BitVec.toNat_ofNat,BitVec.toNat_ofNat,Nat.mod_eq_of_lt (by omega),Nat.mod_eq_of_lt (by omega)]
 have:m &&& n<=m:=Nat.and_le_left
 exact bA (by omega) (by omega)
theorem KM {m n:Nat} (b:m<2 ^ 62) (a:n<2 ^ 62):orI (m:Int) (n:Int)=((m ||| n:Nat):Int):=by
 unfold orI;rw[xt,xt,BitVec.toNat_or,BitVec.toNat_ofNat,BitVec.toNat_ofNat,Nat.mod_eq_of_lt (by omega),Nat.mod_eq_of_lt (by omega)]
 have:m ||| n<2 ^ 62:=Nat.or_lt_two_pow b a
 exact bA (by omega) (by omega)
theorem Fg {m i:Nat} (hi:i<64):n9 (m:Int) (i:Int)=((m >>> i:Nat):Int):=by
 unfold n9;rw[show min (i:Int).toNat 64=i from by simp;omega,Nat.shiftRight_eq_div_pow,Int.fdiv_eq_ediv_of_nonneg _ (by exact_mod_cast Nat.zero_le _)];simp
theorem yF {i:Nat} (hi:i<62):vZ 1 (i:Int)=((2 ^ i:Nat):Int):=by
 unfold vZ;rw[show min (i:Int).toNat 64=i from by simp;omega,Int.one_mul]
 have:2 ^ i<2 ^ 62:=Nat.pow_lt_pow_right (by decide) hi
 rw[show ((2:Int) ^ i)=((2 ^ i:Nat):Int) from by simp];generalize 2 ^ i=z at this;exact bA (by omega) (by omega)
theorem Cc {m i:Nat} (b:m<2 ^ 62) (hi:i<64):((qp (n9 (m:Int) (i:Int)) 1)==1)=m.testBit i:=by
 have a:m >>> i<2 ^ 62:=Nat.lt_of_le_of_lt (by rw[Nat.shiftRight_eq_div_pow];exact Nat.div_le_self _ _) b;rw[Fg hi,show (1:Int)=((1:Nat):Int) from rfl,P0 a (by decide),Nat.testBit,Nat.and_comm];have e:m >>> i &&& 1=m >>> i % 2:=Nat.and_one_is_mod _;rw[Nat.and_comm 1,e];rcases Nat.mod_two_eq_zero_or_one (m >>> i) with h | h <;> rw[h] <;> rfl
theorem Tl {m i:Nat} (b:m<2 ^ 62) (hi:i<64):((qp (n9 (m:Int) (i:Int)) 1)==0)= !m.testBit i:=by
 have a:m >>> i<2 ^ 62:=Nat.lt_of_le_of_lt (by rw[Nat.shiftRight_eq_div_pow];exact Nat.div_le_self _ _) b;rw[Fg hi,show (1:Int)=((1:Nat):Int) from rfl,P0 a (by decide),Nat.testBit,Nat.and_comm];have e:m >>> i &&& 1=m >>> i % 2:=Nat.and_one_is_mod _;rw[Nat.and_comm 1,e];rcases Nat.mod_two_eq_zero_or_one (m >>> i) with h | h <;> rw[h] <;> rfl
def fF (m k:Nat):List Int:=((List.range k).filter fun i=>m.testBit i).map fun (i:Nat)=>(i:Int)
theorem jY (m k:Nat):fF m (k+1)=if m.testBit k then fF m k++ [(k:Int)] else fF m k:=by
 unfold fF;rw[List.range_succ,List.filter_append,aW];by_cases h:m.testBit k=true
 ·simp[h]
 ·simp[h]
theorem ra {m k l:Nat} (h:m<2 ^ k) (a:k<=l):fF m l=fF m k:=by
 induction a with
 | refl=>rfl
 | step a ih =>
  rw[jY,Nat.testBit_lt_two_pow (aD h (Nat.pow_le_pow_right (by decide) a)),ih];rfl
theorem tH {m k:Nat} {x:Int} :x∈fF m k↔ ∃i:Nat,i<k/\m.testBit i=true/\x=(i:Int):=by
 unfold fF;simp only[List.mem_map,List.mem_filter,List.mem_range];constructor
 ·rintro ⟨i,⟨b,a⟩,rfl⟩;exact ⟨i,b,a,rfl⟩
 ·rintro ⟨i,b,a,rfl⟩;exact ⟨i,⟨b,a⟩,rfl⟩
theorem nI (m k:Nat):(fF m k).length<=k:=by
 unfold fF;rw[List.length_map];exact Nat.le_trans (List.length_filter_le _ _) (by simp)
theorem DS {m:Nat} : ∀ {k:Nat},(∀i,i<k->m.testBit i=false)->fF m k= []
 | 0,_=>rfl
 | k+1,h=>by rw[jY,h k (by omega),DS fun i a=>h i (by omega)];rfl
theorem Hr {s k:Nat} (h:s<k):fF (2 ^ s) k= [(s:Int)]:=by
 rw[ra (k:=s+1) (Nat.pow_lt_pow_right (by decide) (by omega)) h,jY,Nat.testBit_two_pow,DS fun i a=>by rw[Nat.testBit_two_pow];simp;omega];simp
theorem uZ (m i j:Nat):(m ||| 2 ^ i).testBit j=(m.testBit j || decide (i=j)):=by
 rw[Nat.testBit_or,Nat.testBit_two_pow]
theorem xu {m i k:Nat} (h:m<2 ^ k) (hi:i<k):m ||| 2 ^ i<2 ^ k:=Nat.or_lt_two_pow h (Nat.pow_lt_pow_right (by decide) hi)
theorem Tm {m i:Nat} (h:m >>> i=0):m<2 ^ i:=by
 rw[Nat.shiftRight_eq_div_pow] at h;exact (Nat.div_eq_zero_iff_lt (Nat.two_pow_pos i)).1 h
theorem lu {p:Prop} [Decidable p] (h:p):chk p=some ():=by unfold chk;rw[if_pos h]
def ab0 {R S T:Type} (φ:S->T):Out R S->Out R T
 | .ret r=>.ret r
 | .nxt s=>.nxt (φ s)
 | .brk s=>.brk (φ s)
theorem Hs {R S T:Type} {f:S->Option (Out R S)} {f':T->Option (Out R T)} (φ:S->T) (Inv:S->Prop)
  (h: ∀s,Inv s->f' (φ s)=(f s).map (ab0 φ)) (hi: ∀s s',Inv s->f s=some (.nxt s')->Inv s'): ∀n s,Inv s->aq f' n (φ s)=(aq f n s).map (ab0 φ)
 | 0,_,_=>rfl
 | n+1,s,hs=>by
  have e:=h s hs;unfold aq;rw[e];cases a:f s with
  | none=>rfl
  | some o =>
   cases o with
   | ret r=>rfl
   | brk s'=>rfl
   | nxt s'=>exact Hs φ Inv h hi n s' (hi s s' hs a)
theorem p62 {n:Nat} (h:n<=30):2 ^ n<=2 ^ 62:=Nat.pow_le_pow_right (by decide) (by omega)
theorem tI {M:Nat} (g:M<2 ^ 30):jo (M:Int)=some (fF M 30):=by
 have a:M<2 ^ 62:=aD g (p62 (by decide));obtain ⟨o,e,l⟩:=b9 (f:=qi (M:Int)) (fun i s=>s=(fF M i,(i:Int))) (fun o=> ∃k,o= .brk (fF M 30,k)) 30 (s:=([],0)) (by
  rintro i s j rfl;unfold qi;have m:chk ((0:Int)<=(i:Int))=some ():=by unfold chk;rw[if_pos (by omega)]
  simp only[m,aa];by_cases c:M >>> i=0
  ·refine .inr ⟨.brk (fF M i,(i:Int)),?_,(fun p e=>by cases e),(i:Int),by rw[ra (Tm c) j]⟩;rw[Fg (by omega),c];rfl
  ·have d:i<30:=by
    rcases Nat.lt_or_ge i 30 with h | h
    ·exact h
    ·exfalso;apply c
     rw[Nat.shiftRight_eq_div_pow];exact Nat.div_eq_of_lt (aD g (Nat.pow_le_pow_right (by decide) h))
   refine .inl ⟨d,(fF M (i+1),((i+1:Nat):Int)),?_,rfl⟩;have n:((n9 (M:Int) (i:Int)) !=0)=true:=by
    rw[Fg (by omega)];simp only[bne_iff_ne,ne_eq];omega
   rw[if_pos n,Cc a (by omega),jY,af (by omega)];by_cases b:M.testBit i=true
   ·rw[if_pos b,if_pos b,ay (by have:=nI M i;simp;omega)];rfl
   ·rw[if_neg b,if_neg b];rfl) rfl (by unfold aT;omega)
 obtain ⟨k,rfl⟩:=l;unfold jo;exact ah e
def ClI (n:Nat) (i:Nat) (st:Int×Int):Prop:=(-1<=st.2/\st.2<n)/\ ∃(M:Nat) (L:List Int),st.1=(M:Int)/\M<2 ^ n/\L.length=i/\L.Nodup/\(∀x∈L,0<=x/\x<n)/\ ∀j:Nat,M.testBit j=true↔(j:Int)∈L
theorem ZA {n:Nat} {L:List Int} (h:L.Nodup) (k: ∀x∈L,0<=x/\x<n):L.length<=n:=by
 have:=h.length_le_of_subset (l₂:=(List.range n).map fun i:Nat=>(i:Int)) (fun x a=>by
  obtain ⟨c,b⟩:=k x a;exact List.mem_map.2 ⟨x.toNat,List.mem_range.2 (by omega),by omega⟩)
 simpa using this
section
variable {a:AutT} {n:Nat} (V:VA a n) (hn:n<=12)
include V hn
theorem Xg {v:Int} (hv:0<=v/\v<=2) {i:Nat} {e:Int×Int} (h:ClI n i (e.2,e.1)) :
  (i<n/\ ∃st',dQ a v e=some (.nxt st')/\ClI n (i+1) (st'.2,st'.1))\/dQ a v e=some (.brk e):=by
 obtain ⟨⟨t,B⟩,M,L,C,p,D,r,o,l⟩:=h;obtain ⟨s,m⟩:=e;obtain rfl:m=(M:Int):=C;have f:M<2 ^ 62:=aD p (p62 (by omega));unfold dQ;simp only at t B⊢;by_cases c:s≥0
 ·obtain ⟨k,rfl⟩: ∃k:Nat,s=(k:Int):=⟨s.toNat,by omega⟩;have y:k<n:=by omega
  have z:chk ((0:Int)<=(k:Int))=some ():=by unfold chk;rw[if_pos (by omega)]
  simp only[z,aa];rw[if_pos (by simp),Tl f (by omega)];by_cases b:M.testBit k=true
  ·right;rw[if_neg (by simp[b])]
  ·left;have q:(k:Int)∉L:=fun w=>b ((l k).2 w);have g:=ZA (n:=n) (L:=(k:Int)::L) (List.nodup_cons.2 ⟨q,r⟩) (fun x d=>by
    rcases aA d with rfl | d
    ·omega
    ·exact o x d)
   simp only[aH] at g;obtain ⟨u,rfl⟩: ∃u:Nat,v=(u:Int):=⟨v.toNat,by omega⟩;have E:u<=2:=by omega
   have A:i64.wrap (6+(u:Int))=((6+u:Nat):Int):=by rw[bA (by omega) (by omega)];omega
   refine ⟨by omega,(mv a (k:Int) (6+u),((M ||| 2 ^ k:Nat):Int)),?_,?_,M ||| 2 ^ k,(k:Int)::L,rfl,xu p y,by simp[D],List.nodup_cons.2 ⟨q,r⟩,?_,?_⟩
   ·rw[if_pos (by simp[b]),A,V.get (s:=(k:Int)) (by omega) (by omega)];simp only[aa];rw[V.get2 (s:=(k:Int)) (k:=6+u) (by omega) (by omega) (by omega),yF (by omega),KM f (Nat.pow_lt_pow_right (by decide) (by omega))];rfl
   ·exact V.mv (by omega) (by omega) (by omega)
   ·intro x d;rcases aA d with rfl | d
    ·omega
    ·exact o x d
   ·intro j;rw[uZ,Bool.or_eq_true,l j,List.mem_cons,decide_eq_true_eq];constructor
    ·rintro (h | h)
     ·exact .inr h
     ·left;omega
    ·rintro (h | h)
     ·right;omega
     ·exact .inl h
 ·right;rw[if_neg (by simpa using c)]
theorem Ht {s v:Int} (hs:0<=s/\s<n) (hv:0<=v/\v<=2): ∃C:Nat,c7 a s v=some (C:Int)/\C<2 ^ n:=by
 have g:ClI n 0 (0,s):=⟨⟨by simp only;omega,hs.2⟩,0,[],rfl,Nat.two_pow_pos n,rfl,List.nodup_nil,by simp,by simp⟩;obtain ⟨o,e,C,b,rfl,k⟩:=b9 (f:=dQ a v) (fun i c=>ClI n i (c.2,c.1)) (fun o=> ∃(C:Nat) (b:Int),o= .brk (b,(C:Int))/\C<2 ^ n) n (s:=(s,0)) (fun i c p h=>by
  rcases Xg V hn hv h with d | d
  ·exact .inl d
  ·obtain ⟨_,M,L,l,j,_⟩:=h;obtain ⟨b,m⟩:=c;obtain rfl:m=(M:Int):=l;exact .inr ⟨_,d,(fun b e=>by cases e),M,b,rfl,j⟩) g (by unfold aT;omega)
 exact ⟨C,by unfold c7;exact ah e,k⟩
end
def cS (a:AutT) (s v:Int):Nat:=((c7 a s v).getD 0).toNat
section
variable {a:AutT} {n:Nat} (V:VA a n) (hn:n<=12)
include V hn
theorem P1 {s v:Int} (hs:0<=s/\s<n) (hv:0<=v/\v<=2):c7 a s v=some (cS a s v:Int)/\cS a s v<2 ^ n:=by
 obtain ⟨C,e,h⟩:=Ht V hn hs hv;unfold cS;rw[e];exact ⟨rfl,by simpa using h⟩
theorem Cd {s v:Int} (hs:0<=s/\s<n) (hv:0<=v/\v<=2):c7 a s v=some (cS a s v:Int):=(P1 V hn hs hv).1
theorem Tn {s v:Int} (hs:0<=s/\s<n) (hv:0<=v/\v<=2):cS a s v<2 ^ n:=(P1 V hn hs hv).2
theorem Hu {s v:Int} (hs:0<=s/\s<n) (hv:0<=v/\v<=2):kR a s v=some (cS a s v:Int)/\cS a s v<2 ^ n:=by
 refine ⟨?_,Tn V hn hs hv⟩;have e:=Cd V hn hs hv;have k:=Hs (f:=kj a v) (f':=dQ a v) (fun h=>(h.2,h.1)) (fun h=> -1<=h.2/\h.2<n) (by
  rintro ⟨m,s⟩ ⟨i,d⟩;unfold dQ kj;simp only at i d⊢;by_cases c:0<=s
  ·simp only[decide_eq_true (show s≥0 from c),if_true,lu c,aa];have j:i64.wrap (6+v)=(((6+v).toNat:Nat):Int):=by rw[bA (by omega) (by omega)];omega
   have g:=Ku V (s:=s) (k:=(6+v).toNat) c d (by omega);have g:bV (a.1,a.2.1,a.2.2) s (((6+v).toNat:Nat):Int)=_:=g;rw[j,g,V.get c d];simp only[aa];rw[V.get2 c d (by omega)];simp only[aa];split <;> rfl
  ·simp only[decide_eq_false (show¬s≥0 from c),Bool.false_eq_true,if_false];rfl) (by
  rintro ⟨m,s⟩ ⟨q,l⟩ ⟨i,d⟩ b;unfold kj at b;simp only at i d b⊢;by_cases c:0<=s
  ·simp only[decide_eq_true (show s≥0 from c),if_true,lu c,aa] at b;have j:i64.wrap (6+v)=(((6+v).toNat:Nat):Int):=by rw[bA (by omega) (by omega)];omega
   have g:=Ku V (s:=s) (k:=(6+v).toNat) c d (by omega);have g:bV (a.1,a.2.1,a.2.2) s (((6+v).toNat:Nat):Int)=_:=g;rw[j,g] at b;simp only[aa] at b;split at b
   ·cases b;exact V.mv c d (by omega)
   ·cases b
  ·simp only[decide_eq_false (show¬s≥0 from c),Bool.false_eq_true,if_false] at b;cases b) aT (0,s) ⟨by simp only;omega,hs.2⟩
 unfold c7 at e;unfold kR;simp only at k;rw[k] at e;cases p:aq (kj a v) aT (0,s) with
 | none=>rw[p] at e;cases e
 | some o =>
  rw[p] at e;cases o with
  | ret r=>exact e
  | brk l=>exact e
  | nxt l=>cases e
end
def afS (a:AutT) (k:Nat) (C:Nat):Nat->Nat
 | 0=>0
 | q+1=>if C.testBit q=true/\0<=mv a (q:Int) k then afS a k C q ||| 2 ^ (mv a (q:Int) k).toNat else afS a k C q
def afL (a:AutT) (k:Nat) (l:List Int):Nat:=l.foldl (fun m t=>if 0<=mv a t k then m ||| 2 ^ (mv a t k).toNat else m) 0
theorem Jc (a:AutT) (k C:Nat): ∀q,afL a k (fF C q)=afS a k C q
 | 0=>rfl
 | q+1=>by
  rw[jY,afS];by_cases b:C.testBit q=true
  ·rw[if_pos b];unfold afL;rw[List.foldl_append]
   have:=Jc a k C q
   unfold afL at this;rw[this];simp[b]
  ·rw[if_neg b,if_neg (fun h=>b h.1)];exact Jc a k C q
section
variable {a:AutT} {n:Nat} (V:VA a n) (hn:n<=12)
include V
theorem P2 {k C:Nat} (b:k<9): ∀q,q<=n->afS a k C q<2 ^ n
 | 0,_=>Nat.two_pow_pos n
 | q+1,hq=>by
  rw[afS]
  have:=P2 (C:=C) b q (by omega)
  split
  ·rename_i c
   have:=(V.mv (s:=(q:Int)) (by omega) (by omega) b).2
   exact xu (by assumption) (by omega)
  ·exact this
theorem UQ {k:Nat} (e:k<9) {l:List Int} (h: ∀x∈l,0<=x/\x<n):afL a k l<2 ^ n:=by
 unfold afL;have key: ∀(l:List Int) (m:Nat),(∀x∈l,0<=x/\x<n)->m<2 ^ n->l.foldl (fun m t=>if 0<=mv a t k then m ||| 2 ^ (mv a t k).toNat else m) m<2 ^ n:=by
  intro l;induction l with
  | nil=>intro m _ h;exact h
  | cons x l ih =>
   intro m b c;rw[List.foldl_cons];refine ih _ (fun y d=>b y (by simp[d])) ?_;split
   ·have:=(V.mv (b x (by simp)).1 (b x (by simp)).2 e).2
    exact xu c (by omega)
   ·exact c
 exact key l 0 h (Nat.two_pow_pos n)
include hn
theorem xw {C:Nat} (c:C<2 ^ n): ∀x∈fF C 30,0<=x/\x<(n:Int):=by
 intro x d;obtain ⟨i,e,b,rfl⟩:=tH.1 d;refine ⟨by omega,?_⟩;rcases Nat.lt_or_ge i n with h | h
 ·omega
 ·rw[Nat.testBit_lt_two_pow (aD c (Nat.pow_le_pow_right (by decide) h))] at b;cases b
theorem MC {k:Nat} (u:k<6) {l:List Int} (h: ∀x∈l,0<=x/\x<n) (j:l.length<=30):aq (nt a (k:Int) l) aT (0,0)=some (.brk ((afL a k l:Int),(l.length:Int))):=by
 have:=aO (f:=nt a (k:Int) l) (fun i=>((afL a k (l.take i):Int),(i:Int))) l.length (fun i g=>by
  unfold nt;simp only;have b:=h _ (bT (xs:=l) (i:=(i:Int)) (by omega) (by omega));rw[if_pos (by simp;omega),au (by omega) (by omega)];simp only[aa];have d:=Ku V (s:=nth l (i:Int)) (k:=k) b.1 b.2 (by omega);have d:bV (a.1,a.2.1,a.2.2) (nth l (i:Int)) (k:Int)=_:=d;rw[d,af (by omega)];simp only[aa];have q:l.take (i+1)=l.take i++ [nth l (i:Int)]:=by rw[List.take_add_one,de g];simp[g]
  have m:afL a k (l.take (i+1))=if 0<=mv a (nth l (i:Int)) k then afL a k (l.take i) ||| 2 ^ (mv a (nth l (i:Int)) k).toNat else afL a k (l.take i):=by
   rw[q];unfold afL;rw[List.foldl_append];rfl
  have e:=UQ V (k:=k) (by omega) (l:=l.take i) (fun x b=>h x (List.mem_of_mem_take b));have o:=(V.mv (s:=nth l (i:Int)) (k:=k) b.1 b.2 (by omega)).2;rw[m];by_cases c:0<=mv a (nth l (i:Int)) k
  ·rw[if_pos (by simpa using c),if_pos c];obtain ⟨t,r⟩: ∃t:Nat,mv a (nth l (i:Int)) k=(t:Int):=⟨_,(Int.toNat_of_nonneg c).symm⟩;have p:chk ((0:Int)<=mv a (nth l (i:Int)) k)=some ():=by unfold chk;rw[if_pos c]
   rw[p,r,yF (by omega),KM (aD e (p62 (by omega))) (Nat.pow_lt_pow_right (by decide) (by omega))];rfl
  ·rw[if_neg (by simpa using c),if_neg c];rfl) (by unfold nt;simp) (kz (by omega))
 simpa [afL] using this
theorem ZB {s v:Int} {k:Nat} (hs:0<=s/\s<n) (hv:0<=v/\v<=2) (g:k<6):sO a (vZ 1 s) v (k:Int)=some (afL a k (fF (cS a s v) 30):Int):=by
 obtain ⟨t,rfl⟩: ∃t:Nat,s=(t:Int):=⟨s.toNat,by omega⟩;obtain ⟨b,d⟩:=Hu V hn hs hv;have h:cS a (t:Int) v<2 ^ 30:=aD d (Nat.pow_le_pow_right (by decide) (by omega));unfold sO;rw[yF (by omega),tI (Nat.pow_lt_pow_right (by decide) (by omega)),Hr (by omega)];simp only[aa];have e:jq a v (k:Int) [(t:Int)] (0,0)=some (.nxt ((afL a k (fF (cS a (t:Int) v) 30):Int),1)):=by
  unfold jq;simp only;rw[if_pos (by simp),show aP [(t:Int)] 0=some (t:Int) from rfl];simp only[aa];have b:kR (a.1,a.2.1,a.2.2) (t:Int) v=_:=b;rw[b];simp only[aa];rw[tI h];simp only[aa];rw[MC V hn g (xw V hn d) (nI _ _)]
  rfl
 have c: ∀m:Int,jq a v (k:Int) [(t:Int)] (m,1)=some (.brk (m,1)):=fun m=>by
  unfold jq;rw[if_neg (by simp)]
 have:=aO (f:=jq a v (k:Int) [(t:Int)]) (fun i=>if i=0 then (0,0) else ((afL a k (fF (cS a (t:Int) v) 30):Int),1)) 1 (fun i j=>by
  obtain rfl:i=0:=by omega
  exact e) (c _) (by unfold aT;omega)
 have this:aq (jq a v (k:Int) [(t:Int)]) aT (0,0)=some (.brk ((afL a k (fF (cS a (t:Int) v) 30):Int),1)):=this;rw[this];rfl
end
def rm {α:Type} (N:Nat) (F:Nat->α):List α:=(List.range N).map F
section
variable {α:Type} {N:Nat} {F G:Nat->α}
theorem Ce:(rm N F).length=N:=by simp[rm]
theorem oz (h: ∀z,z<N->F z=G z):rm N F=rm N G:=by
 unfold rm;exact List.map_congr_left fun z a=>h z (List.mem_range.1 a)
theorem Cf {c:Nat} (h:c<N):aP (rm N F) (c:Int)=some (F c):=by
 rw[aI (by rw[Ce];exact h)];simp[rm]
theorem P3 {c:Nat} {v:α} :(rm N F).set c v=rm N fun z=>if z=c then v else F z:=by
 refine List.ext_getElem (by simp[rm]) fun i b a=>?_;simp only[rm,List.getElem_set,List.getElem_map,List.getElem_range];by_cases e:c=i
 ·subst e;simp
 ·rw[if_neg e,if_neg (fun h=>e h.symm)]
theorem vV {xs:List α} [Inhabited α] {k:Nat} (h:k<xs.length):xs.take (k+1)=xs.take k++ [nth xs (k:Int)]:=by
 rw[List.take_add_one,de h];simp[h]
end
theorem UR {α:Type} {b n:Nat} {z:α} (h:n*b<=140737488355328):mkI b (n:Int) z=some (rm n fun _=>z):=by
 have:rm n (fun _=>z)=List.replicate n z:=by
  unfold rm;exact List.ext_getElem (by simp) fun i c a=>by simp
 rw[this,Y9 h]
abbrev EdT:=Int×Int×Int×Int
abbrev ArT:=(Int×Bool)×Int×Int
def fwd (e:EdT):ArT:=((e.1,false),2*e.2.2.2,e.2.2.1)
def inv (e:EdT):ArT:=((e.1,true),2*e.2.2.2+1,e.2.1)
def US (e:EdT) (x:Int):List ArT:=(if e.2.1=x then [fwd e] else [])++(if e.2.2.1=x then [inv e] else [])
def mn (es:List EdT) (x:Nat):List ArT:=es.flatMap fun e=>US e x
theorem To (e:EdT) (x:Int):(US e x).length<=2:=by
 unfold US;rw[az];split <;> split <;> simp
theorem tJ {α β:Type} {f:α->List β} {B:Nat} : ∀ {xs:List α},(∀x∈xs,(f x).length<=B)->(xs.flatMap f).length<=B*xs.length
 | [],_=>by simp
 | x::xs,h=>by
  rw[List.flatMap_cons,az,aH,Nat.mul_add]
  have:=h x (by simp)
  have:=tJ (xs:=xs) fun y a=>h y (by simp[a])
  omega
theorem uk (a:List EdT) (x:Nat):(mn a x).length<=2*a.length:=tJ fun e _=>To e x
theorem P4 (e:EdT) (h:0<=e.2.2.2/\e.2.2.2<=2) (b:Bool):sN e b=some (if b then 2*e.2.2.2+1 else 2*e.2.2.2):=by
 unfold sN;rw[bA (n:=2*e.2.2.2) (by omega) (by omega),bA (by omega) (by omega)];cases b <;> rfl
theorem ZC {g:GrT} (G:GOk g):wN g=some (rm g.1.length (mn g.2)):=by
 unfold wN;rw[UR (by have:=G.n5;omega)];simp only[aa]
 have:=aO (f:=o7 g) (fun i=>((i:Int),rm g.1.length (mn (g.2.take i)))) g.2.length (fun i t=>by
  unfold o7;simp only;have y:=G.m;obtain ⟨⟨d,j⟩,⟨c,l⟩,b⟩:=G.edge _ (bT (xs:=g.2) (i:=(i:Int)) (by omega) (by omega));rw[if_pos (by simp;omega),au (by omega) (by omega)];simp only[aa];generalize s:nth g.2 (i:Int)=e at d j c l b;obtain ⟨id,m,n,k⟩:=e;obtain ⟨p,rfl⟩: ∃p:Nat,m=(p:Int):=⟨m.toNat,by simp only at d;omega⟩;obtain ⟨q,rfl⟩: ∃q:Nat,n=(q:Int):=⟨n.toNat,by simp only at c;omega⟩;simp only at d j c l b;have hp:p<g.1.length:=by omega
  have r:q<g.1.length:=by omega
  have u:=P4 (id,(p:Int),(q:Int),k) b false;have o:=P4 (id,(p:Int),(q:Int),k) b true;have w:=uk (g.2.take i) p;have v:=uk (g.2.take i) q;have x:(g.2.take i).length<=12:=by rw[aB];omega
  simp only[Cf hp,Cf r,aa,u,o,Int.toNat_natCast,P3,Bool.false_eq_true,if_false,if_true];rw[ay (by simp;omega)];simp only[aa,P3];rw[lu (by rw[Ce];omega),lu trivial];simp only[aa];rw[ay (by split <;> simp <;> omega)];simp only[aa];rw[lu (by rw[Ce];omega)];simp only[aa]
  try rw[lu rfl];simp only[aa]
  rw[af (by omega)];congr 3;refine oz fun z A=>?_;rw[vV t,s];unfold mn;rw[List.flatMap_append];simp only[List.flatMap_cons,List.flatMap_nil,List.append_nil,US];by_cases h:z=q
  ·subst h;by_cases a:z=p
   ·subst a;simp[fwd,inv]
   ·simp[a,fwd,inv,show¬((p:Int)=(z:Int)) from by omega]
  ·by_cases a:z=p
   ·subst a;simp[h,fwd,inv,show¬((q:Int)=(z:Int)) from by omega]
   ·simp[h,a,show¬((p:Int)=(z:Int)) from by omega,show¬((q:Int)=(z:Int)) from by omega]) (by unfold o7;simp) (kz (by have:=G.m;omega))
 have this:aq (o7 g) aT (0,rm g.1.length fun _=>[])=_:=this;rw[this,List.take_length];rfl
def behind (a:AutT) (s v k:Int):List Int:=fF (afL a k.toNat (fF (cS a s v) 30)) 30
def nbA (g:GrT) (a:AutT) (x s:Nat) (y:ArT):List Int:=(behind a s (nth g.1 x) y.2.1).map fun t=>y.2.2*(a.2.1.length:Int)+t
def nbV (g:GrT) (a:AutT) (x s:Nat):List Int:=(mn g.2 x).flatMap (nbA g a x s)
def nbC (g:GrT) (a:AutT) (c:Nat):List Int:=nbV g a (c / a.2.1.length) (c % a.2.1.length)
theorem Cg {g:GrT} (G:GOk g) {x:Nat} {y:ArT} (h:y∈mn g.2 x):(0<=y.2.1/\y.2.1<6)/\0<=y.2.2/\y.2.2<g.1.length:=by
 obtain ⟨e,d,a⟩:=List.mem_flatMap.1 h;obtain ⟨c,b,f⟩:=G.edge e d;unfold US at a;rcases aG a with a | a <;> split at a
 ·obtain rfl:y=fwd e:=by simpa using a
  exact ⟨⟨by simp[fwd];omega,by simp[fwd];omega⟩,b⟩
 ·cases a
 ·obtain rfl:y=inv e:=by simpa using a
  exact ⟨⟨by simp[inv];omega,by simp[inv];omega⟩,c⟩
 ·cases a
section
variable {g:GrT} {a:AutT} (G:GOk g) (V:VA a a.2.1.length) (hn:a.2.1.length<=12)
include G V hn
theorem xx {s v:Int} {k:Int} (hs:0<=s/\s<a.2.1.length) (hv:0<=v/\v<=2) (d:0<=k/\k<6):(∀t∈behind a s v k,0<=t/\t<(a.2.1.length:Int))/\(behind a s v k).length<=30/\afL a k.toNat (fF (cS a s v) 30)<2 ^ 30:=by
 have c:=Tn V hn hs hv;have b:=UQ V (k:=k.toNat) (by omega) (xw V hn c);exact ⟨xw V hn b,nI _ _,aD b (Nat.pow_le_pow_right (by decide) (by omega))⟩
theorem UT {x s:Nat} {y:ArT} (m:x<g.1.length) (hs:s<a.2.1.length) (f:y∈mn g.2 x): ∀z∈nbA g a x s y,0<=z/\z<((a.2.1.length*g.1.length:Nat):Int):=by
 intro z e;obtain ⟨t,h,rfl⟩:=List.mem_map.1 e;obtain ⟨d,k,b⟩:=Cg G f;have hv:=G.val _ (bT (xs:=g.1) (i:=(x:Int)) (by omega) (by omega));obtain ⟨j,l⟩:=(xx G V hn (s:=(s:Int)) ⟨by omega,by omega⟩ hv d).1 t h;obtain ⟨q,c⟩: ∃q:Nat,y.2.2=(q:Int):=⟨y.2.2.toNat,by omega⟩;obtain ⟨r,rfl⟩: ∃r:Nat,t=(r:Int):=⟨t.toNat,by omega⟩;rw[c] at b⊢
 have:q*a.2.1.length+r<g.1.length*a.2.1.length:=by
  have:(q+1)*a.2.1.length<=g.1.length*a.2.1.length:=Nat.mul_le_mul_right _ (by omega)
  rw[Nat.add_mul] at this;omega
 rw[Nat.mul_comm a.2.1.length];constructor
 ·exact_mod_cast Nat.zero_le _
 ·exact_mod_cast this
theorem ZD {x s:Nat} (d:x<g.1.length) (hs:s<a.2.1.length): ∀z∈nbV g a x s,0<=z/\z<((a.2.1.length*g.1.length:Nat):Int):=by
 intro z b;obtain ⟨y,c,b⟩:=List.mem_flatMap.1 b;exact UT G V hn d hs c z b
theorem P5 {x s:Nat} {y:ArT} (c:x<g.1.length) (hs:s<a.2.1.length) (b:y∈mn g.2 x):(nbA g a x s y).length<=30:=by
 unfold nbA;rw[List.length_map];exact nI _ _
end
section
variable {g:GrT} {a:AutT} {F:Nat->List Int} {N:Nat}
theorem aa8 {x s:Nat} {o1 o2:List (List Int)} {y:ArT} {T:List Int} (c:x*a.2.1.length+s<N) (o:N<=60) (l:(F (x*a.2.1.length+s)).length<=10000) (p:T.length<=30) (h: ∀t∈T,0<=y.2.2*(a.2.1.length:Int)+t/\y.2.2*(a.2.1.length:Int)+t<60/\0<=t/\t<=60) :
  aq (dN a ((x:Int),o1) ((s:Int),o2) y T) aT (0,rm N F)=some (.brk ((T.length:Int),rm N fun z=>if z=x*a.2.1.length+s then F z++T.map fun t=>y.2.2*(a.2.1.length:Int)+t else F z)):=by
 have b:i64.wrap (i64.wrap ((x:Int)*(a.2.1.length:Int))+(s:Int))=((x*a.2.1.length+s:Nat):Int):=by
  have:((x:Int)*(a.2.1.length:Int))=((x*a.2.1.length:Nat):Int):=by simp
  rw[this,xh (by omega),bA (by omega) (by omega)];rfl
 have:=aO (f:=dN a ((x:Int),o1) ((s:Int),o2) y T) (fun j=>((j:Int),rm N fun z=>if z=x*a.2.1.length+s then F z++(T.take j).map fun t=>y.2.2*(a.2.1.length:Int)+t else F z)) T.length (fun j d=>by
  unfold dN;simp only;obtain ⟨q,r,m,u⟩:=h _ (bT (xs:=T) (i:=(j:Int)) (by omega) (by omega));rw[if_pos (by simp;omega),au (by omega) (by omega)];simp only[aa,b,Cf c,if_true];have ev:i64.wrap (i64.wrap (y.2.2*(a.2.1.length:Int))+nth T (j:Int))=y.2.2*(a.2.1.length:Int)+nth T (j:Int):=by
   rw[bA (n:=y.2.2*(a.2.1.length:Int)) (by omega) (by omega),bA (by omega) (by omega)]
  rw[ev,ay (by simp;omega)];simp only[aa,Int.toNat_natCast,P3];rw[lu (by rw[Ce];omega),lu trivial,af (by omega)];simp only[aa];congr 3;refine oz fun z k=>?_;by_cases e:z=x*a.2.1.length+s
  ·subst e;rw[if_pos rfl,if_pos rfl,vV d,aW,aC];rfl
  ·simp only[if_neg e]) (by unfold dN;simp) (kz (by omega))
 rw[List.take_length] at this;rw[<-this];congr 2;refine oz fun z k=>?_;split <;> simp
end
section
variable {g:GrT} {a:AutT} (G:GOk g) (V:VA a a.2.1.length) (hn:a.2.1.length<=12)
include G V hn
theorem nN:a.2.1.length*g.1.length<=60:=by
 have:=Nat.mul_le_mul hn G.n5;omega
theorem cN {x s:Nat} (b:x<g.1.length) (hs:s<a.2.1.length):x*a.2.1.length+s<a.2.1.length*g.1.length:=by
 have:(x+1)*a.2.1.length<=g.1.length*a.2.1.length:=Nat.mul_le_mul_right _ (by omega)
 rw[Nat.add_mul,Nat.mul_comm g.1.length] at this;omega
theorem aa9 {F:Nat->List Int} {x s:Nat} {o1 o2:List (List Int)} (d:x<g.1.length) (hs:s<a.2.1.length) (p:F (x*a.2.1.length+s)= []) :
  aq (fv g a ((x:Int),o1) (mn g.2 x) ((s:Int),o2)) aT (0,rm (a.2.1.length*g.1.length) F)=some (.brk (((mn g.2 x).length:Int),rm (a.2.1.length*g.1.length) fun z=>if z=x*a.2.1.length+s then nbV g a x s else F z)):=by
 have H:=uk g.2 x;have J:=G.m
 have:=aO (f:=fv g a ((x:Int),o1) (mn g.2 x) ((s:Int),o2)) (fun j=>((j:Int),rm (a.2.1.length*g.1.length) fun z=>if z=x*a.2.1.length+s then ((mn g.2 x).take j).flatMap (nbA g a x s) else F z)) (mn g.2 x).length (fun j r=>by
  unfold fv;simp only;have c:=bT (xs:=mn g.2 x) (i:=(j:Int)) (by omega) (by omega);obtain ⟨m,I,C⟩:=Cg G c;have hv:=G.val _ (bT (xs:=g.1) (i:=(x:Int)) (by omega) (by omega));obtain ⟨u,o,w⟩:=xx G V hn (s:=(s:Int)) (v:=nth g.1 (x:Int)) (k:=(nth (mn g.2 x) (j:Int)).2.1) ⟨by omega,by omega⟩ hv m;rw[if_pos (by simp;omega),au (by omega) (by omega)];simp only[aa];rw[lu (by omega),au (xs:=g.1) (by omega) (by omega)];simp only[aa];obtain ⟨k,n⟩: ∃k:Nat,(nth (mn g.2 x) (j:Int)).2.1=(k:Int):=⟨_,(Int.toNat_of_nonneg m.1).symm⟩;have h:=ZB V hn (s:=(s:Int)) (v:=nth g.1 (x:Int)) (k:=k) ⟨by omega,by omega⟩ hv (by omega);have h:sO (a.1,a.2.1,a.2.2) (vZ 1 (s:Int)) (nth g.1 (x:Int)) (k:Int)=_:=h;rw[n,h];simp only[aa];have q:k=(nth (mn g.2 x) (j:Int)).2.1.toNat:=by rw[n];rfl
  rw[q,tI w];simp only[aa];have B:(((mn g.2 x).take j).flatMap (nbA g a x s)).length<=30*((mn g.2 x).take j).length:=tJ fun y c=>P5 G V hn d hs (List.mem_of_mem_take c);have l:((mn g.2 x).take j).length<=24:=by rw[aB];omega
  have b:=aa8 (F:=fun z=>if z=x*a.2.1.length+s then ((mn g.2 x).take j).flatMap (nbA g a x s) else F z) (o1:=o1) (o2:=o2) (y:=nth (mn g.2 x) (j:Int)) (T:=behind a (s:Int) (nth g.1 (x:Int)) (nth (mn g.2 x) (j:Int)).2.1) (cN G V hn d hs) (nN G V hn) (by simp only[if_true];omega) o (fun t l=>by
   have D:=UT G V hn d hs c _ (List.mem_map.2 ⟨t,l,rfl⟩);have E:=u t l
   have:=nN G V hn
   omega)
  unfold behind at b;have b:aq (dN a ((x:Int),o1) ((s:Int),o2) (nth (mn g.2 x) (j:Int)) (fF (afL a (nth (mn g.2 x) (j:Int)).2.1.toNat (fF (cS a (s:Int) (nth g.1 (x:Int))) 30)) 30)) aT (0,rm (a.2.1.length*g.1.length) fun z=>if z=x*a.2.1.length+s then ((mn g.2 x).take j).flatMap (nbA g a x s) else F z)=_:=b;rw[ah b,af (by omega)];congr 3;refine oz fun z A=>?_;by_cases e:z=x*a.2.1.length+s
  ·subst e;rw[if_pos rfl,if_pos rfl,vV r,List.flatMap_append];simp[nbA,behind]
  ·simp only[if_neg e]) (by unfold fv;simp) (kz (by omega))
 rw[List.take_length] at this;rw[show nbV g a x s=(mn g.2 x).flatMap (nbA g a x s) from rfl,<-this];congr 2;refine oz fun z A=>?_;split
 ·rename_i e;subst e;rw[p];simp
 ·rfl
theorem ZE {x s:Nat} (hs:s<a.2.1.length):nbC g a (x*a.2.1.length+s)=nbV g a x s:=by
 unfold nbC;rw[Nat.mul_comm,Nat.mul_add_div (by omega),Nat.mul_add_mod,Nat.div_eq_of_lt hs,Nat.mod_eq_of_lt hs,Nat.add_zero]
theorem aba {x:Nat} {o1:List (List Int)} (h:x<g.1.length) :
  aq (fw g a ((x:Int),o1) (mn g.2 x)) aT (0,rm (a.2.1.length*g.1.length) fun z=>if z<x*a.2.1.length then nbC g a z else [])=some (.brk ((a.2.1.length:Int),rm (a.2.1.length*g.1.length) fun z=>if z<(x+1)*a.2.1.length then nbC g a z else [])):=by
 have:=aO (f:=fw g a ((x:Int),o1) (mn g.2 x)) (fun j=>((j:Int),rm (a.2.1.length*g.1.length) fun z=>if z<x*a.2.1.length+j then nbC g a z else [])) a.2.1.length (fun j b=>by
  unfold fw;simp only;rw[if_pos (by simp;omega)];have d:=aa9 G V hn (F:=fun z=>if z<x*a.2.1.length+j then nbC g a z else []) (o1:=o1) (o2:=rm (a.2.1.length*g.1.length) fun z=>if z<x*a.2.1.length+j then nbC g a z else []) h b (by simp);rw[ah d,af (by omega)];congr 3;refine oz fun z i=>?_;by_cases e:z=x*a.2.1.length+j
  ·subst e;rw[if_pos rfl,if_pos (by omega),ZE G V hn b]
  ·rw[if_neg e];by_cases c:z<x*a.2.1.length+j
   ·rw[if_pos c,if_pos (by omega)]
   ·rw[if_neg c,if_neg (by omega)]) (by unfold fw;simp) (kz (by omega))
 rw[Nat.add_mul,Nat.one_mul];exact this
theorem Xh:fP g a=some (rm (a.2.1.length*g.1.length) (nbC g a)):=by
 have i:=nN G V hn;unfold fP;have h:i64.wrap ((a.2.1.length:Int)*(g.1.length:Int))=((a.2.1.length*g.1.length:Nat):Int):=by
  rw[show ((a.2.1.length:Int)*(g.1.length:Int))=((a.2.1.length*g.1.length:Nat):Int) from by simp,xh (by omega)]
 have b:=ZC G;have b:wN (g.1,g.2)=_:=b;rw[h,UR (by omega),b];simp only[aa]
 have:=aO (f:=iu g a (rm g.1.length (mn g.2))) (fun j=>((j:Int),rm (a.2.1.length*g.1.length) fun z=>if z<j*a.2.1.length then nbC g a z else [])) g.1.length (fun j c=>by
  unfold iu;simp only;rw[if_pos (by rw[Ce];simp;omega),Cf c];simp only[aa];rw[ah (aba G V hn c),af (by have:=G.n5;omega)]) (by unfold iu;rw[Ce];simp) (kz (by have:=G.n5;omega))
 have e:(rm (a.2.1.length*g.1.length) fun _=>([] :List Int))=rm (a.2.1.length*g.1.length) fun z=>if z<0*a.2.1.length then nbC g a z else []:=oz fun z d=>by rw[if_neg (by omega)]
 rw[e,show (0:Int)=((0:Nat):Int) from rfl,ah this];congr 1;refine oz fun z d=>?_;rw[if_pos (by rw[Nat.mul_comm g.1.length];exact d)]
end
end D
end Go.Proofs.YtncnbjfngmhfaaaGreatDoor
