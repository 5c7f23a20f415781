/- FnRegistry: for every input the law returns true and changes nothing that was there. Part 6 of 7. -/
import Derived.Test.YtbhafdfiplkacaaGreatRC4
set_option linter.unusedVariables false
set_option linter.unusedSimpArgs false
set_option linter.unnecessarySimpa false
set_option linter.unusedSectionVars false
set_option maxRecDepth 1000000
namespace Go.Proofs.YtbhafdfiplkacaaGreat
namespace R
open Go.RowKit
open D
theorem xW:FOk Tryz.prog 236 qq:=fk [(297,(gI dE))] ⟨(mR dE),trivial⟩ Tryz.func236 .no (tr:=[(187,116,rW)])
theorem vK:FOk Tryz.prog 168 oU:=fk [(81,nC),(82,oy),(234,(ja dE)),(235,(iA dE)),(236,qq)] ⟨uO,rv,(oW dE),(nL dE),xW,trivial⟩ Tryz.func168 .no (tr:=[(187,116,rW)])
theorem oH:FOk Tryz.prog 237 jy:=fk [] trivial Tryz.func237 (.two .no (.loop [.slot 12 (.num .i64),.par 4 [3] 3 y3] (.two .no (.two .no (.two (.at [.par 4 [3] 3 y3] .no) .no)))))
theorem kC: ∀n,FOk Tryz.prog 169 (eT n)
 | 0=>gF (f:=eT 0) (enters_of Tryz.func169 (by kernel_rfl) rfl) rfl (fun d=>rfl)
 | n+1=>by
  have ih:=kC n
  exact fk [(169,(eT n)),(237,jy)] ⟨ih,oH,trivial⟩ Tryz.func169 (.two .no (.two (.two .no (.two .no (.two .no (.two .no (.two .no (.two .no (.two .no (.two .no (.two (.two .no (.two .no (.two .no (.two (.two .no (.at [.box 10 [(.num .i64),(.num .i64),.boo]] .no)) (.two (.two .no (.at [.box 10 [(.num .i64),(.num .i64),.boo]] .no)) .no))))) .no))))))))) .no)) (tr:=[(187,116,rW)])
theorem qx:FOk Tryz.prog 86 kW:=fk [(82,oy),(168,oU),(169,(eT dE))] ⟨rv,vK,(kC dE),trivial⟩ Tryz.func86 (.two .no (.two .no (.two .no (.two .no (.two (.two .no (.loop [.slot 6 (.num .i64),.slot 22 (.num .i64)] (.two .no (.two .no (.two (.at [.slot 6 (.num .i64)] .no) .no))))) .no))))) (tr:=[(187,116,rW)])
theorem mS:FOk Tryz.prog 170 jt:=fk [] trivial Tryz.func170 (.two .no (.two .no (.two .no (.two .no (.two (.two .no (.loop [.slot 10 (.own 3 y3),.slot 11 (.map ⟨3,3,.int,.int⟩),.slot 13 (.num .i64),.box 12 [(.num .i64),(.own 4 y4),(.own 47 y47)]] (.two .no (.two (.two .no (.two (.two .no (.loop [.slot 10 (.own 3 y3),.slot 11 (.map ⟨3,3,.int,.int⟩),.slot 14 (.own 3 y3),.slot 15 (.num .i64)] (.two .no (.join [.slot 10 (.own 3 y3),.slot 11 (.map ⟨3,3,.int,.int⟩),.slot 14 (.own 3 y3)] (.two .no (.two .no (.two .no (.join [.slot 10 (.own 3 y3),.slot 11 (.map ⟨3,3,.int,.int⟩),.slot 18 (.num .i64)] .no .no)))) .no)))) .no)) .no)))) .no)))))
theorem nM:FOk Tryz.prog 171 jg:=fk [] trivial Tryz.func171 .no
theorem pw:FOk Tryz.prog 173 kt:=fk [] trivial Tryz.func173 (.two .no (.two .no (.join [.slot 7 (.num .i64)] .no (.two (.two .no (.loop [.slot 7 (.num .i64),.slot 21 (.num .i64)] (.two .no (.two .no (.join [.slot 7 (.num .i64)] .no .no))))) (.two .no (.two (.two .no (.loop [.slot 10 (.num .i64),.slot 39 (.num .i64)] (.two .no (.two .no (.join [.slot 10 (.num .i64)] .no .no))))) .no))))))
theorem ry:FOk Tryz.prog 172 lN:=fk [(173,kt)] ⟨pw,trivial⟩ Tryz.func172 .no
theorem uP:FOk Tryz.prog 87 nD:=fk [(170,jt),(171,jg),(172,lN)] ⟨mS,nM,ry,trivial⟩ Tryz.func87 .no
theorem jM:FOk Tryz.prog 321 bG:=zH (f:=bG) (gF (f:=⟨bG.ps,bG.rs,bG.m,none⟩) (enters_of Tryz.func321 (by kernel_rfl) rfl) rfl (fun d=>rfl)) (CC (V:=⟨tt,[],[(5,.raw)],8,[]⟩) zL trivial mixed Tryz.func321 rfl rfl (enters_of Tryz.func321 (by kernel_rfl) rfl) (bO rfl) .no (fun E bn xs=>by cases bn <;> kernel_rfl))
theorem qy:FOk Tryz.prog 298 kX:=fk [(321,bG)] ⟨jM,trivial⟩ Tryz.func298 (.two .no (.two .no (.two (.two .no (.loop [.slot 4 .boo,.row 3 4 y4] (.two .no (.two .no (.two .no (.loop [.slot 4 .boo,.slot 16 (.num .i64),.row 3 4 y4] (.two .no (.two .no (.two (.two .no (.two .no (.loop [.slot 4 .boo,.slot 23 (.num .i64),.row 3 4 y4] (.two .no (.two .no (.two (.at [.slot 4 .boo,.row 3 4 y4] .no) .no)))))) .no))))))))) .no)))
theorem hO:FOk Tryz.prog 322 dD:=fk [] trivial Tryz.func322 (.two .no (.two (.two .no (.loop [.slot 8 (.num .i64)] .no)) .no))
theorem mY:FOk Tryz.prog 323 iC:=fk [(92,dH)] ⟨gj,trivial⟩ Tryz.func323 .no
theorem oJ:FOk Tryz.prog 299 jz:=fk [(322,dD),(323,iC)] ⟨hO,mY,trivial⟩ Tryz.func299 (.two .no (.two .no (.two .no (.two (.two .no (.loop [.slot 6 (.own 47 y47),.slot 7 (.own 3 y3),.slot 18 (.num .i64)] (.two .no (.two .no (.join [.slot 6 (.own 47 y47),.slot 7 (.own 3 y3)] (.two .no (.two .no (.two .no (.two (.two .no (.loop [.slot 36 (.num .i64),.box 10 [(.own 3 y3)]] (.two .no (.two .no (.two (.two .no (.join [.slot 12 (.num .i64)] .no .no)) .no))))) (.two .no (.join [.slot 6 (.own 47 y47),.slot 13 (.num .i64),.gone 10] .no .no)))))) .no))))) .no))))
theorem nN:FOk Tryz.prog 238 jh:=fk [(298,kX),(299,jz)] ⟨qy,oJ,trivial⟩ Tryz.func238 (.two .no (.two .no (.two (.two .no (.loop [.slot 3 (.own 3 y3),.slot 13 (.num .i64)] (.two .no (.two .no (.join [.slot 3 (.own 3 y3)] .no .no))))) (.two .no (.loop [.slot 3 (.own 3 y3),.slot 6 (.num .i64)] .no)))))
theorem px:FOk Tryz.prog 349 ku:=fk [] trivial Tryz.func349 .no
end R
namespace R
open Go.RowKit
open D
theorem py:FOk Tryz.prog 350 ky:=fk [] trivial Tryz.func350 .no
theorem rz:FOk Tryz.prog 324 lO:=fk [(349,ku),(350,ky)] ⟨px,py,trivial⟩ Tryz.func324 .no
theorem kD:FOk Tryz.prog 300 fN:=fk [(324,lO)] ⟨rz,trivial⟩ Tryz.func300 (.two .no (.two .no (.two .no (.two .no (.two .no (.two .no (.two (.loop [.slot 8 (.num .i64),.row 7 3 (.int .i64)] .no) .no))))))) (an:=[(44,.bool)])
theorem Bn:FOk Tryz.prog 239 uC:=fk [(300,fN)] ⟨kD,trivial⟩ Tryz.func239 .no
theorem kJ:FOk Tryz.prog 178 gi:=fk [] trivial Tryz.func178 (.two .no (.two (.two .no (.loop [.slot 8 (.num .i64)] .no)) .no))
theorem lU:FOk Tryz.prog 240 gX:=fk [(178,gi)] ⟨kJ,trivial⟩ Tryz.func240 .no
theorem lV:FOk Tryz.prog 241 gY:=fk [] trivial Tryz.func241 .no
theorem qz:FOk Tryz.prog 243 kY:=fk [(229,nB)] ⟨so,trivial⟩ Tryz.func243 .no
theorem lW:FOk Tryz.prog 242 gZ:=fk [(243,kY)] ⟨qz,trivial⟩ Tryz.func242 .no
theorem mZ:FOk Tryz.prog 174 iD:=fk [(170,jt),(238,jh),(239,uC),(240,gX),(241,gY),(242,gZ)] ⟨mS,nN,Bn,lU,lV,lW,trivial⟩ Tryz.func174 .no
theorem GL:FOk Tryz.prog 88 zP:=fk [(174,iD)] ⟨mZ,trivial⟩ Tryz.func88 .no
theorem uQ:FOk Tryz.prog 32 nE:=fk [(86,kW),(87,nD),(88,zP)] ⟨qx,uP,GL,trivial⟩ Tryz.func32 .no
theorem ss:FOk Tryz.prog 123 nF:=fk [] trivial Tryz.func123 .no
theorem ff:FOk Tryz.prog 124 cy:=fk [] trivial Tryz.func124 (.two .no (.two (.two .no (.loop [.slot 8 (.num .i64)] .no)) .no))
theorem zT:FOk Tryz.prog 125 rZ:=fk [(33,iN)] ⟨lT,trivial⟩ Tryz.func125 .no
theorem rA:FOk Tryz.prog 55 oz:=fk [(32,nE),(96,ox),(123,nF),(124,cy),(125,rZ)] ⟨uQ,ru,ss,ff,zT,trivial⟩ Tryz.func55 (.two .no (.two .no (.two (.two .no (.loop [.slot 13 (.num .i64),.box 4 [(.own 41 y41),(.own 95 y95)]] (.two .no (.two .no (.two (.two .no (.two .no (.two .no (.two .no (.join [.slot 9 (.num .i64),.box 4 [(.own 41 y41),(.own 95 y95)],.gone 7] .no .no))))) .no))))) .no)))
theorem eV:FOk Tryz.prog 13 dw:=fk [(12,gO),(55,oz)] ⟨kB,rA,trivial⟩ Tryz.func13 .no
end R
namespace R
open Go.RowKit
open D
theorem eI:FOk Tryz.prog 71 cj:=fk [] trivial Tryz.func71 (.two .no (.two (.two .no (.loop [.slot 8 (.num .i64)] .no)) .no))
theorem uR:FOk Tryz.prog 72 nG:=fk [] trivial Tryz.func72 .no
theorem jN:FOk Tryz.prog 19 iB:=fk [(71,cj),(72,nG)] ⟨eI,uR,trivial⟩ Tryz.func19 .no
theorem zU:FOk Tryz.prog 133 sd:=fk [] trivial Tryz.func133 .no
theorem lX:FOk Tryz.prog 66 iO:=fk [(133,sd)] ⟨zU,trivial⟩ Tryz.func66 (.two .no (.two .no (.two (.two .no (.loop [.slot 16 (.num .i64),.box 3 [(.num .i64),(.own 4 y4),(.own 47 y47)]] .no)) .no)))
theorem mT:FOk Tryz.prog 54 ju:=fk [(66,iO),(123,nF)] ⟨lX,ss,trivial⟩ Tryz.func54 (.two .no (.two .no (.two (.two .no (.loop [.slot 12 (.num .i64),.box 3 [(.own 41 y41),(.own 95 y95)]] .no)) (.two (.two .no (.loop [.slot 27 (.num .i64),.box 3 [(.own 41 y41),(.own 95 y95)]] .no)) .no))))
theorem fm:FOk Tryz.prog 56 cC:=Nu (n:=2) (z:=(⟨.int .i64 0,rfl⟩,⟨.slice none 0 0,rfl⟩,⟨.int .i64 0,rfl⟩)) rfl rfl (fok (V:=⟨tt,[(126,⟨[],[],none,some (95,0)⟩)],[(12,.raw),(34,.raw),(43,.raw),(50,.raw),(53,.raw),(60,.str),(66,.raw),(73,.raw),(76,.raw),(80,.raw),(86,.raw),(91,.raw)],95,[]⟩) zL ⟨O8 (Qu (fn:=Tryz.f126) (tS:=25) (tR:=4) (E:=95) Tryz.func126 (by kernel_rfl) (by kernel_rfl) (by kernel_rfl) (by kernel_rfl) Tryz.underlying25 (TTok.get zL rfl).ti),trivial⟩ mixed Tryz.func56 rfl rfl (enters_of Tryz.func56 (by kernel_rfl) rfl) rfl (bO rfl) rfl .no (fun d=>by kernel_rfl))
theorem cK:FOk Tryz.prog 57 bS:=JJ (n:=2) rfl (GF (t:=dN 2) (V:=⟨tt,[],[(5,(.prod .raw (.prod .raw .raw)))],8,[]⟩) zL trivial mixed Tryz.func57 rfl rfl (enters_of Tryz.func57 (by kernel_rfl) rfl) (bO rfl) .no rfl (fun bn xs=>by cases bn <;> kernel_rfl))
theorem rB:FOk Tryz.prog 10 lP:=fk [(13,dw),(19,iB),(54,ju),(55,oz),(56,cC),(57,bS)] ⟨eV,jN,mT,rA,fm,cK,trivial⟩ Tryz.func10 (.two .no (.two .no (.two .no (.two (.loop [.slot 8 (.num .i64)] .no) .no)))) (an:=[(47,.fro y95)])
theorem fo:FOk Tryz.prog 65 cD:=Nr (n:=2) (z:=(⟨.int .i64 0,rfl⟩,⟨.slice none 0 0,rfl⟩,⟨.int .i64 0,rfl⟩)) rfl rfl (fok (V:=⟨tt,[],[(13,.raw),(22,.raw),(25,.raw),(31,.raw)],33,[]⟩) zL trivial mixed Tryz.func65 rfl rfl (enters_of Tryz.func65 (by kernel_rfl) rfl) rfl (bO rfl) rfl .no (fun d=>by kernel_rfl))
theorem pz:FOk Tryz.prog 15 kz:=fk [(13,dw),(19,iB),(54,ju),(55,oz),(57,bS),(65,cD)] ⟨eV,jN,mT,rA,cK,fo,trivial⟩ Tryz.func15 .no
theorem qA:FOk Tryz.prog 16 kZ:=fk [(13,dw),(19,iB),(66,iO)] ⟨eV,jN,lX,trivial⟩ Tryz.func16 .no
theorem Bo:FOk Tryz.prog 221 uD:=fk [(110,qk)] ⟨sV,trivial⟩ Tryz.func221 (.two .no (.two .no (.two .no (.two (.two .no (.loop [.slot 4 (.num .i64)] (.two .no (.two (.two .no (.two .no (.loop [.slot 5 (.num .i64)] .no))) .no)))) .no))))
theorem jB:FOk Tryz.prog 143 gk:=fk [(221,uD)] ⟨Bo,trivial⟩ Tryz.func143 .no
theorem xX:FOk Tryz.prog 288 qu:=fk [] trivial Tryz.func288 .no
theorem Bp:FOk Tryz.prog 289 uE:=fk [] trivial Tryz.func289 (.two .no (.two .no (.two (.loop [.slot 1 (.num .i64),.slot 5 (.own 3 y3)] .no) .no)))
theorem Bq:FOk Tryz.prog 290 uF:=fk [] trivial Tryz.func290 .no
end R
namespace R
open Go.RowKit
open D
theorem DV:FOk Tryz.prog 291 wF:=fk [] trivial Tryz.func291 (.two .no (.two (.two .no (.loop [.slot 5 (.num .i64)] .no)) .no))
theorem xY:FOk Tryz.prog 220 qv:=fk [(288,qu),(289,uE),(290,uF),(291,wF)] ⟨xX,Bp,Bq,DV,trivial⟩ Tryz.func220 (.two .no (.two .no (.two (.two .no (.loop [.slot 12 (.own 295 N6),.slot 13 (.num .i64)] (.two .no (.two (.two .no (.two .no (.two (.two (.at [.slot 57 .boo] .no) .no) (.two .no (.loop [.slot 12 (.own 295 N6),.slot 16 (.num .i64)] (.two .no (.join [.slot 12 (.own 295 N6)] .no .no))))))) .no)))) .no)))
theorem uS:FOk Tryz.prog 142 nH:=fk [(143,gk),(220,qv)] ⟨jB,xY,trivial⟩ Tryz.func142 .no
theorem oK:FOk Tryz.prog 73 jA:=fk [(142,nH),(143,gk)] ⟨uS,jB,trivial⟩ Tryz.func73 .no
theorem rC:FOk Tryz.prog 20 lQ:=fk [(73,jA)] ⟨oK,trivial⟩ Tryz.func20 .no
theorem vL:FOk Tryz.prog 3 vC:=fk [(8,GH),(9,jf),(10,lP),(11,iM),(12,gO),(13,dw),(14,gN),(15,kz),(16,kZ),(17,km),(18,fZ),(19,iB),(20,lQ)] ⟨Nw,nK,rB,lR,kB,eV,kA,pz,qA,nJ,iP,jN,rC,trivial⟩ Tryz.func3 (.two .no (.two .no (.two .no (.two .no (.two .no (.two .no (.two (.two .no (.atX [] .no)) (.two (.two .no (.loop [.slot 16 (.num .i64)] (.two .no (.two (.two .no (.loop [.slot 17 (.num .i64)] .no)) .no)))) .no)))))))) (tr:=[(41,0,.bool),(47,0,.bool),(95,0,.bool)])
end R
namespace D
open Go.RowKit
theorem vM (x0:List Int) (r:Bool) (hm:iZ x0=some r) {I:Hp} {w0:World} (v0_0:Value) (r0_0:(aq 5 rU8).rd I [v0_0] x0) (hL:Lay Tryz.prog I):Con Tryz.prog 3 #[v0_0] I w0 [] (fun v=>v= .bool r) (fun _=>[]):=fun w C hs =>
 ((R.vL).con rfl w0 I undef [v0_0] (x0,()) r hL ⟨_,_,rfl,⟨[v0_0],rfl,r0_0⟩,rfl⟩ hm w C hs).mono fun e w' ⟨v,he,_,hst⟩=>by
  obtain ⟨h1,h2⟩:=R.pR (h1:=fun _=>rfl) (show St I w0 w' (Ch.own R.Ty.bool.rep [v] r::C) from hst)
  exact ⟨v,he,(List.cons.inj h1).1,h2⟩
end D
namespace D
open Go.RowKit
def I64 (n:Int):Prop:= -9223372036854775808<=n/\n<=9223372036854775807
class Data (α:Type) where
 lim:α->Prop
 sm:α->Prop
instance:Data Int:=⟨I64,fun _=>True⟩
instance:Data Bool:=⟨fun _=>True,fun _=>True⟩
instance:Data ByteArray:=⟨fun s=>s.size<=9223372036854775807,fun s=>s.size<=1048576⟩
instance {α β:Type} [Data α] [Data β] :Data (α×β):=⟨fun x=>Data.lim x.1/\Data.lim x.2,fun x=>Data.sm x.1/\Data.sm x.2⟩
instance {α:Type} [Data α] :Data (List α):=⟨fun xs=>xs.length<=9223372036854775807/\ ∀x,x∈xs->Data.lim x,fun xs=>xs.length<=1048576/\ ∀x,x∈xs->Data.sm x⟩
structure Opens (P:Program) (t:TypeId) {α:Type} [Data α] (R:Rep α):Prop where
 out: ∀ {H:Type} (enc:TypeId×Value->H) (w:World) (fuel:Nat) (cs:List Value) (x:DataW H×List MemPlace),DataW.trod enc P w 0 (fun _=>true) true fuel t cs=some x-> ∃a:α,R.rd (hp w) cs a/\Data.lim a
theorem JL {P:Program} {t:TypeId} (h:P.underlying t=some (.int .u8)):Opens P t rU8:=by
 constructor
 intro H enc w fuel cs x hx
 obtain ⟨n,rfl,-,hw⟩:=DataW.trod_int h hx
 refine ⟨n,rfl,show I64 n from ?_⟩
 simp[Lit.wf,IntKind.min,IntKind.max,IntKind.signed,IntKind.bits] at hw
 unfold I64
 omega
theorem Br {P:Program} {t e:TypeId} {α:Type} [Data α] {R:Rep α} {E:TypeId} (h:P.underlying t=some (.slice e)) (hc:P.cellsOf e=R.size) (h0:0<R.size) (he:Opens P e R):Opens P t (aq E R):=by
 constructor
 intro H enc w fuel cs x hx
 rcases Go.Deep.open_slice h hx with ⟨rfl,-⟩ | ⟨a,len,cap,m,n,D,Pl,rfl,-,hl,hm,hmm,-,hel⟩
 ·exact ⟨[],⟨none,0,rfl,by simp,.inl rfl⟩,Nat.zero_le _,fun x hx=>by cases hx⟩
 have hlm:m=cap:=by simpa using hmm
 subst hlm
 rw[hc] at hel
 by_cases hz:len=0
 ·subst hz
  exact ⟨[],⟨some a,m,rfl,by simp,.inl rfl⟩,Nat.zero_le _,fun x hx=>by cases hx⟩
 ·have hone: ∀i,i<len-> ∃c:List Value,∃y:α,c.length=R.size/\(∀j,j<R.size->w.cell? ((a.add (i*R.size)).add j)=c[j]?)/\R.rd (hp w) c y/\Data.lim y:=by
   intro i hi
   obtain ⟨c,h1,h2⟩:=hel i (by omega)
   obtain ⟨-,h3,h4⟩:=World.cells?_some h1
   obtain ⟨y,hy⟩:=he.out enc w _ _ _ h2
   exact ⟨c,y,h3,h4,hy⟩
  obtain ⟨c0,y0,hc0,hr0,-⟩:=hone 0 (by omega)
  have h00:=hr0 0 h0
  have hsome: ∃v,c0[0]? =some v:=⟨_,List.getElem?_eq_getElem (by omega)⟩
  obtain ⟨v,hv⟩:=hsome
  rw[hv] at h00
  have ha:(a.add (0*R.size)).add 0=a:=by simp[Addr.add]
  rw[ha] at h00
  obtain ⟨b,off,spot⟩:=a
  have hb: ∃ccs T fr,w.heap[b]? =some (.cells ccs T fr)/\spot=none:=by
   simp only[World.cell?] at h00
   split at h00
   ·rename_i ccs T fr heq
    cases spot with
    | none=>exact ⟨ccs,T,fr,heq,rfl⟩
    | some s=>simp at h00
   ·simp at h00
  obtain ⟨ccs,T,fr,hh,rfl⟩:=hb
  have hadd: ∀i j,(Addr.add ⟨b,off,none⟩ i).add j=⟨b,off+i+j,none⟩:=by
   intro i j
   by_cases h1:i=0 <;> by_cases h2:j=0 <;> simp[Addr.add,h1,h2,Nat.add_assoc]
  haveI:Inhabited α:=⟨y0⟩
  obtain ⟨X,hX⟩:=Go.Deep.choose_lt (α:=α) (n:=len) (p:=fun i y=> ∃c:List Value,c.length=R.size/\(∀j,j<R.size->ccs.toList[off+i*R.size+j]? =c[j]?)/\R.rd (hp w) c y/\Data.lim y) (fun i hi=>by
   obtain ⟨c,y,h1,h2,h3⟩:=hone i hi
   refine ⟨y,c,h1,fun j hj=>?_,h3⟩
   have:=h2 j hj
   rw[hadd] at this
   simp only[World.cell?,hh] at this
   simpa using this)
  have hlen:((List.range len).map X).length=len:=by simp
  have hel2: ∀i y,((List.range len).map X)[i]? =some y->i<len/\y=X i:=fun i y hy=>by
   have hi:i<len:=by have:=(List.getElem?_eq_some_iff.1 hy).1;omega
   exact ⟨hi,by simpa [hi] using hy.symm⟩
  refine ⟨(List.range len).map X,⟨some ⟨b,off,none⟩,m,by rw[hlen],by rw[hlen];unfold maxLen at hm;unfold lim;omega,.inr ⟨b,off,ccs,T,fr,rfl,hh,fun i y hy=>?_⟩⟩,by rw[hlen];unfold maxLen at hm;omega,fun y hy=>?_⟩
  ·obtain ⟨hi,rfl⟩:=hel2 i y hy
   obtain ⟨c,e1,e2,e3,-⟩:=hX i hi
   exact ⟨c,e1,e2,e3⟩
  ·obtain ⟨i,hi,he⟩:=List.mem_iff_getElem?.1 hy |>.imp fun i hi=>hel2 i y hi
   obtain ⟨-,-,-,-,e4⟩:=hX i hi
   rw[he];exact e4
theorem St.below {w0 w:World} {cs:List Ch} (h:St (hp w0) w0 w cs):Below w0.heap.size w0 w:=by
 obtain ⟨⟨h1,h2,h3,h4⟩,h5,-⟩:=h
 refine ⟨h1,h2,h3,h4,fun b hb=>?_⟩
 have e:w0.heap[b]? =some w0.heap[b]:=Array.getElem?_eq_getElem hb
 rw[e];exact h5 b _ e
end D
namespace D
open Go.RowKit
theorem dY {n:Int} (h1: -9223372036854775808<=n) (h2:n<=9223372036854775807):IntKind.i64.wrap n=n:=by
 simp only[IntKind.wrap,IntKind.bits,IntKind.signed,Bool.true_and]
 split <;> rename_i h <;> simp at h <;> omega
theorem aC {i:Nat} (h:i<9223372036854775807):IntKind.i64.wrap ((i:Int)+1)=((i+1:Nat):Int):=by
 rw[dY (by omega) (by omega)];rfl
theorem aY {α:Type} {xs:List α} {i:Nat} (h:i<xs.length):bj xs (i:Int)=some (xs[i]):=by
 unfold bj
 rw[if_pos (Int.natCast_nonneg _)]
 simp[h]
theorem dS {i n:Nat} (h:i<n):decide ((i:Int)<(n:Int))=true:=by simp[h]
theorem cH {n:Nat} :decide ((n:Int)<(n:Int))=false:=by simp
theorem jC (k:Nat) (h:k<=9223372036854775807):k<br:=by unfold br;omega
theorem zV {R S:Type} {f:S->Option (Out R S)} (inv:Nat->S) (N:Nat) (h: ∀i,i<N->f (inv i)=some (.nxt (inv (i+1)))): ∀(m i k:Nat),i+m=N->aF f (k+m) (inv i)=aF f k (inv N)
 | 0,i,k,e=>by rw[show i=N by omega];rfl
 | m+1,i,k,e=>by
  rw[<-Nat.add_assoc,aF,h i (by omega)]
  exact zV inv N h m (i+1) k (by omega)
theorem GM {R S:Type} {f:S->Option (Out R S)} (inv:Nat->S) (N:Nat) {s:S} (h: ∀i,i<N->f (inv i)=some (.nxt (inv (i+1)))) (he:f (inv N)=some (.brk s)) (hN:N<br):aF f br (inv 0)=some (.brk s):=by
 have e:br=(br - N - 1)+1+N:=by omega
 rw[e,zV inv N h N 0 _ (by omega),aF,he]
theorem Rf {α:Type} [Data α] {f:Int×Int->Option (Out Int (Int×Int))} (xs:List α)
  (hstep: ∀i (h:i<xs.length) l,0<=l->l<=1048576-> ∃r,f (l,(i:Int))=some (if r<0 then .ret (-1) else .nxt (r,((i+1:Nat):Int)))/\(r<0\/(0<=r/\r<=l/\Data.sm xs[i])))
  (hend: ∀l,f (l,(xs.length:Int))=some (.brk (l,(xs.length:Int)))): ∀(m i k:Nat) (l:Int),i+m=xs.length->m<k->0<=l->l<=1048576->
   aF f k (l,(i:Int))=some (.ret (-1))\/ ∃r,aF f k (l,(i:Int))=some (.brk (r,(xs.length:Int)))/\0<=r/\r<=l/\ ∀j (h:j<xs.length),i<=j->Data.sm xs[j]
 | 0,i,k,l,e,hk,h0,h1=>by
  obtain ⟨k,rfl⟩: ∃q,k=q+1:=⟨k - 1,by omega⟩
  obtain rfl:i=xs.length:=by omega
  exact .inr ⟨l,by rw[aF,hend],h0,Int.le_refl _,fun j hj hi=>by omega⟩
 | m+1,i,k,l,e,hk,h0,h1=>by
  obtain ⟨k,rfl⟩: ∃q,k=q+1:=⟨k - 1,by omega⟩
  obtain ⟨r,e1,e2⟩:=hstep i (by omega) l h0 h1
  rw[aF,e1]
  rcases e2 with e2 | ⟨e2,e3,e4⟩
  ·rw[if_pos e2];exact .inl rfl
  ·rw[if_neg (by omega)]
   rcases Rf xs hstep hend m (i+1) k r (by omega) (by omega) e2 (by omega) with h | ⟨q,g1,g2,g3,g4⟩
   ·exact .inl h
   ·refine .inr ⟨q,g1,g2,by omega,fun j hj hi=>?_⟩
    by_cases hji:j=i
    ·subst hji;exact e4
    ·exact g4 j hj (by omega)
theorem szL {α:Type} [Data α] {f:Int×Int->Option (Out Int (Int×Int))} (xs:List α) {l:Int} (hN:xs.length<=9223372036854775807)
  (hstep: ∀i (h:i<xs.length) l,0<=l->l<=1048576-> ∃r,f (l,(i:Int))=some (if r<0 then .ret (-1) else .nxt (r,((i+1:Nat):Int)))/\(r<0\/(0<=r/\r<=l/\Data.sm xs[i])))
  (hend: ∀l,f (l,(xs.length:Int))=some (.brk (l,(xs.length:Int)))) (h0:0<=l) (h1:l<=1048576) :
  ∃r,(if decide (IntKind.i64.wrap (l - (xs.length:Int))<0) then (some (-1)) else (a6 (aF f br (IntKind.i64.wrap (l - (xs.length:Int)),0)) (fun r=>some r) (fun s4=>some s4.1)))=some r/\(r<0\/(0<=r/\r<=l/\Data.sm xs)):=by
 rw[dY (by omega) (by omega)]
 by_cases h:l - (xs.length:Int)<0
 ·exact ⟨-1,by rw[if_pos (decide_eq_true h)],.inl (by decide)⟩
 ·rw[if_neg (by simpa using h)]
  rcases Rf xs hstep hend xs.length 0 br (l - xs.length) (by omega) (jC _ hN) (by omega) (by omega) with e | ⟨r,e,g1,g2,g3⟩
  ·exact ⟨-1,by rw[show ((0:Int))=((0:Nat):Int) from rfl,e];rfl,.inl (by decide)⟩
  ·refine ⟨r,by rw[show ((0:Int))=((0:Nat):Int) from rfl,e];rfl,.inr ⟨g1,by omega,by omega,fun x hx=>?_⟩⟩
   obtain ⟨j,hj,rfl⟩:=List.getElem_of_mem hx
   exact g3 j hj (Nat.zero_le _)
theorem QK {α:Type} [DecidableEq α] {f:Int->Option (Out Bool Int)} (xs ys:List α) (hl:xs.length=ys.length)
  (hstep: ∀i (h:i<xs.length) (h':i<ys.length),f (i:Int)=some (if xs[i] =ys[i] then .nxt ((i+1:Nat):Int) else .ret false)) (hend:f (xs.length:Int)=some (.brk (xs.length:Int))): ∀(m i k:Nat),i+m=xs.length->m<k->
   aF f k (i:Int)=some (if xs.drop i=ys.drop i then .brk (xs.length:Int) else .ret false)
 | 0,i,k,e,hk=>by
  obtain ⟨k,rfl⟩: ∃q,k=q+1:=⟨k - 1,by omega⟩
  obtain rfl:i=xs.length:=by omega
  rw[aF,hend,List.drop_of_length_le (aB _),List.drop_of_length_le (by omega),if_pos rfl]
 | m+1,i,k,e,hk=>by
  obtain ⟨k,rfl⟩: ∃q,k=q+1:=⟨k - 1,by omega⟩
  have hi:i<xs.length:=by omega
  have hi':i<ys.length:=by omega
  have d1:=List.drop_eq_getElem_cons hi
  have d2:=List.drop_eq_getElem_cons hi'
  rw[aF,hstep i hi hi',d1,d2]
  by_cases h:xs[i] =ys[i]
  ·rw[if_pos h]
   simp only
   rw[QK xs ys hl hstep hend m (i+1) k (by omega) (by omega)]
   simp only[List.cons.injEq,h,true_and]
  ·rw[if_neg h]
   simp only[List.cons.injEq,h,false_and,if_false]
theorem eqL {α:Type} [DecidableEq α] {f:Int->Option (Out Bool Int)} (xs ys:List α) (hN:xs.length<=9223372036854775807)
  (hstep: ∀i (h:i<xs.length) (h':i<ys.length),f (i:Int)=some (if xs[i] =ys[i] then .nxt ((i+1:Nat):Int) else .ret false)) (hend:f (xs.length:Int)=some (.brk (xs.length:Int))) :
  (if (xs.length:Int) !=(ys.length:Int) then (some false) else (a6 (aF f br 0) (fun r=>some r) (fun s4=>some true)))=some (decide (xs=ys)):=by
 by_cases hl:xs.length=ys.length
 ·rw[if_neg (by rw[hl];simp),show ((0:Int))=((0:Nat):Int) from rfl,QK xs ys hl hstep hend xs.length 0 br (by omega) (jC _ hN)]
  by_cases h:xs=ys
  ·subst h;simp[a6]
  ·simp[a6,h]
 ·have:xs≠ys:=fun e=>hl (by rw[e])
  rw[if_pos (by simp;omega)];simp[this]
theorem zW {α:Type} {c d:Prop} [Decidable c] [Decidable d] {a b:α} (h:c↔d):(if c then some a else some b)=some (if d then a else b):=by
 by_cases k:c
 ·rw[if_pos k,if_pos (h.1 k)]
 ·rw[if_neg k,if_neg (fun e=>k (h.2 e))]
theorem eqB {α:Type} [DecidableEq α] {f:Int->Option (Out Bool Int)} {K:Option Bool} (xs ys:List α) (hN:xs.length<=9223372036854775807) (hl:xs.length=ys.length)
  (hstep: ∀i (h:i<xs.length) (h':i<ys.length),f (i:Int)=some (if xs[i] =ys[i] then .nxt ((i+1:Nat):Int) else .ret false)) (hend:f (xs.length:Int)=some (.brk (xs.length:Int))) :
  a6 (aF f br 0) (fun r=>some r) (fun s4=>K)=(if xs=ys then K else some false):=by
 rw[show ((0:Int))=((0:Nat):Int) from rfl,QK xs ys hl hstep hend xs.length 0 br (by omega) (jC _ hN)]
 by_cases h:xs=ys
 ·subst h;simp[a6]
 ·simp[a6,h]
theorem Pe {f:Int->Option (Out Int Int)} (xs ys:List Int)
  (hstep: ∀i (h:i<xs.length) (h':i<ys.length),f (i:Int)=some (if xs[i] < ys[i] then .ret (-1) else if xs[i] > ys[i] then .ret 1 else .nxt ((i+1:Nat):Int))) (hend: ∀i,xs.length<=i\/ys.length<=i->f (i:Int)=some (.brk (i:Int))): ∀(m i k:Nat),i+m=xs.length->m<k->
   (∃r,aF f k (i:Int)=some (.ret r)/\r≠0/\xs≠ys)\/ ∃s,aF f k (i:Int)=some (.brk s)/\(xs.length=ys.length->xs.drop i=ys.drop i)
 | 0,i,k,e,hk=>by
  obtain ⟨k,rfl⟩: ∃q,k=q+1:=⟨k - 1,by omega⟩
  exact .inr ⟨_,by rw[aF,hend i (.inl (by omega))],fun h=>by rw[List.drop_of_length_le (by omega),List.drop_of_length_le (by omega)]⟩
 | m+1,i,k,e,hk=>by
  obtain ⟨k,rfl⟩: ∃q,k=q+1:=⟨k - 1,by omega⟩
  have hi:i<xs.length:=by omega
  by_cases hi':i<ys.length
  ·have hne: ∀h:xs[i] ≠ys[i],xs≠ys:=fun h e=>h (by subst e;rfl)
   rw[aF,hstep i hi hi']
   by_cases h1:xs[i] < ys[i]
   ·rw[if_pos h1];exact .inl ⟨-1,rfl,by decide,hne (by omega)⟩
   ·rw[if_neg h1]
    by_cases h2:xs[i] > ys[i]
    ·rw[if_pos h2];exact .inl ⟨1,rfl,by decide,hne (by omega)⟩
    ·rw[if_neg h2]
     rcases Pe xs ys hstep hend m (i+1) k (by omega) (by omega) with h | ⟨s,g1,g2⟩
     ·exact .inl h
     ·refine .inr ⟨s,g1,fun hl=>?_⟩
      have h3:xs[i] =ys[i]:=by omega
      rw[List.drop_eq_getElem_cons hi,List.drop_eq_getElem_cons hi',g2 hl,h3]
  ·exact .inr ⟨_,by rw[aF,hend i (.inr (by omega))],fun h=>by omega⟩
instance:LawfulBEq ByteArray where
 eq_of_beq {a b} h:=ByteArray.ext (eq_of_beq (show (a.data==b.data)=true from h))
 rfl {a}:=beq_self_eq_true a.data
theorem Rg {α β γ δ:Type} {a b:α×β×γ×δ} :(a.1=b.1/\a.2.1=b.2.1/\a.2.2.1=b.2.2.1/\a.2.2.2=b.2.2.2)↔a=b:=by rw[Prod.ext_iff,Prod.ext_iff,Prod.ext_iff]
theorem jj {α β:Type} (p:α×β):(p.1,p.2)=p:=rfl
theorem gP {α:Type} [Data α] {xs:List α} (h:Data.sm xs):xs.length<=1048576/\ ∀x,x∈xs->Data.sm x:=h
end D
namespace D
open Go.RowKit
theorem cM {R S:Type} {f:S->Option (Out R S)} (Inv:Nat->S->Prop) (Q:Out R S->Prop) (N:Nat)
  (h: ∀i s,i<=N->Inv i s->(i<N/\ ∃s',f s=some (.nxt s')/\Inv (i+1) s')\/ ∃o,f s=some o/\(∀s',o≠ .nxt s')/\Q o) {s:S} (h0:Inv 0 s) (hN:N<br): ∃o,aF f br s=some o/\Q o:=by
 have key: ∀(k i:Nat) (s:S),i<=N->N<i+k->Inv i s-> ∃o,aF f k s=some o/\Q o:=by
  intro k
  induction k with
  | zero=>intro i s h1 h2;omega
  | succ k ih =>
   intro i s h1 h2 hI
   rcases h i s h1 hI with ⟨hi,s',e,hI'⟩ | ⟨o,e,hn,hq⟩
   ·obtain ⟨o,e',hq⟩:=ih (i+1) s' (by omega) (by omega) hI'
    exact ⟨o,by rw[aF,e];exact e',hq⟩
   ·refine ⟨o,?_,hq⟩
    rw[aF,e]
    cases o with
    | nxt s'=>exact absurd rfl (hn s')
    | brk s'=>rfl
    | ret r=>rfl
 exact key br 0 s (by omega) (by omega) h0
theorem jk {R S:Type} {f:S->Option (Out R S)} (Inv:Nat->S->Prop) (N:Nat) (h: ∀i s,i<N->Inv i s-> ∃s',f s=some (.nxt s')/\Inv (i+1) s') (he: ∀s,Inv N s->f s=some (.brk s)) {s:S} (h0:Inv 0 s) (hN:N<br): ∃s',aF f br s=some (.brk s')/\Inv N s':=by
 obtain ⟨o,e,s',rfl,h⟩:=cM (f:=f) Inv (fun o=> ∃s',o= .brk s'/\Inv N s') N (fun i s hi hI=>by
  by_cases h1:i<N
  ·exact .inl ⟨h1,h i s h1 hI⟩
  ·obtain rfl:i=N:=by omega
   exact .inr ⟨_,he s hI,(fun s' e=>by cases e),s,rfl,hI⟩) h0 hN
 exact ⟨s',e,h⟩
theorem bg {R S:Type} {f:S->Option (Out R S)} (st:Nat->S) (N:Nat) (h: ∀i,i<N->f (st i)=some (.nxt (st (i+1)))) (he:f (st N)=some (.brk (st N))) (hN:N<br):aF f br (st 0)=some (.brk (st N)):=GM st N h he hN
theorem m6 {k:Nat} (h:k<=9223372036854775807):k<br:=jC k h
theorem qB {i:Nat} (h:i<=9223372036854775807):IntKind.i64.wrap ((i:Int) - 1)=(i:Int) - 1:=dY (by omega) (by omega)
theorem aI {α:Type} {b:Nat} {xs ys:List α} (h:(xs.length+ys.length)*b<=140737488355328):cm b xs ys=some (xs++ys):=by unfold cm;rw[if_pos h]
theorem Nx {i n:Nat} :decide ((i:Int)<(n:Int))=decide (i<n):=by simp
theorem dx {R S T:Type} {x:Option (Out R S)} {r:R} {kr:R->Option T} {k:S->Option T} (h:x=some (.ret r)):a6 x kr k=kr r:=by rw[h];rfl
theorem aE {R S T:Type} {x:Option (Out R S)} {s:S} {kr:R->Option T} {k:S->Option T} (h:x=some (.brk s)):a6 x kr k=k s:=by rw[h];rfl
def nth {α:Type} [Inhabited α] (xs:List α) (i:Int):α:=xs.getD i.toNat default
section
variable {α:Type} [Inhabited α] {xs ys:List α}
theorem aG {i:Int} (h0:0<=i) (h1:i<xs.length):bj xs i=some (nth xs i):=by
 unfold bj nth
 rw[if_pos h0]
 have:i.toNat<xs.length:=by omega
 simp[List.getD_eq_getElem?_getD,this]
theorem bN {i:Nat} (h:i<xs.length):nth xs (i:Int)=xs[i]:=by simp[nth,List.getD_eq_getElem?_getD,h]
theorem eH {i:Int} (h0:0<=i) (h1:i<xs.length):nth xs i∈xs:=by
 have:i.toNat<xs.length:=by omega
 have e:nth xs i=xs[i.toNat]:=by simp[nth,List.getD_eq_getElem?_getD,this]
 rw[e];exact List.getElem_mem this
theorem fO {i:Int} (h0:0<=i) (h1:i<xs.length):nth (xs++ys) i=nth xs i:=by
 have:i.toNat<xs.length:=by omega
 simp[nth,List.getD_eq_getElem?_getD,List.getElem?_append_left this]
theorem Ny {β:Type} [Inhabited β] {f:α->β} {i:Int} (h0:0<=i) (h1:i<xs.length):nth (xs.map f) i=f (nth xs i):=by
 have:i.toNat<xs.length:=by omega
 simp[nth,List.getD_eq_getElem?_getD,this]
theorem Bs {x:α} (h:x∈xs): ∃i:Nat,i<xs.length/\nth xs (i:Int)=x:=by
 obtain ⟨i,hi,rfl⟩:=List.getElem_of_mem h
 exact ⟨i,hi,bN hi⟩
theorem su {i:Int} {x:α} (h0:0<=i) (h1:i<xs.length):nth (xs.set i.toNat x) i=x:=by
 have:i.toNat<xs.length:=by omega
 simp[nth,List.getD_eq_getElem?_getD,this]
theorem wJ {i j:Int} {x:α} (h0:0<=i) (hj:0<=j) (h:i≠j):nth (xs.set i.toNat x) j=nth xs j:=by
 have:i.toNat≠j.toNat:=by omega
 simp[nth,List.getD_eq_getElem?_getD,List.getElem?_set_ne this]
theorem Nz (h:xs.length=ys.length) (k: ∀i:Nat,i<xs.length->nth xs (i:Int)=nth ys (i:Int)):xs=ys:=by
 refine List.ext_getElem h fun i h1 h2=>?_
 have:=k i h1
 rwa [bN h1,bN h2] at this
end
section
variable {κ:Type} [DecidableEq κ]
def nbL (l:List κ):Option κ->List κ
 | none=>l
 | some x=>if x∈l then l else l++ [x]
def nbI (l:List κ):Option κ->Int
 | none=> -1
 | some x=>(l.idxOf x:Int)
def nbS (l:List κ) (os:List (Option κ)):List κ:=os.foldl nbL l
def nbR (l:List κ):List (Option κ)->List Int
 | [] =>[]
 | o::os=>nbI l o::nbR (nbL l o) os
theorem oA (l:List κ) (os:List (Option κ)) (o:Option κ):nbS l (os++ [o])=nbL (nbS l os) o:=by simp[nbS]
theorem oB: ∀(l:List κ) (os:List (Option κ)) (o:Option κ),nbR l (os++ [o])=nbR l os++ [nbI (nbS l os) o]
 | l,[],o=>rfl
 | l,p::os,o=>by
  show nbI l p::nbR (nbL l p) (os++ [o])=nbI l p::nbR (nbL l p) os++ [nbI (nbS (nbL l p) os) o]
  rw[oB (nbL l p) os o];rfl
theorem dL: ∀(l:List κ) (os:List (Option κ)),(nbR l os).length=os.length
 | l,[] =>rfl
 | l,o::os=>by show (nbR (nbL l o) os).length+1=_;rw[dL];rfl
theorem DW (l : List κ) (o : Option κ) : l <+: nbL l o := by
  cases o with
  | none => exact List.prefix_refl l
  | some x => unfold nbL; simp only; split
              · exact List.prefix_refl l
              · exact List.prefix_append l [x]
theorem g9: ∀(l:List κ) (os:List (Option κ)),l <+:nbS l os
 | l,[] =>List.prefix_refl l
 | l,o::os=>(DW l o).trans (g9 (nbL l o) os)
theorem GN {l : List κ} {o : Option κ} (h : l.Nodup) : (nbL l o).Nodup := by
  cases o with
  | none => exact h
  | some x => unfold nbL; simp only; split
              · exact h
              · rename_i hx; exact List.nodup_append.2 ⟨h, by simp, by rintro a ha b hb rfl; simp at hb; exact hx (hb ▸ ha)⟩
theorem lY: ∀ {l:List κ} {os:List (Option κ)},l.Nodup->(nbS l os).Nodup
 | l,[],h=>h
 | l,o::os,h=>lY (l:=nbL l o) (os:=os) (GN h)
theorem GO {l : List κ} {o : Option κ} {x : κ} : x ∈ nbL l o ↔ x ∈ l \/ o = some x := by
  cases o with
  | none => simp [nbL]
  | some y => unfold nbL; simp only; split
              · rename_i h; constructor
                · exact .inl
                · rintro (h' | h')
                  · exact h'
                  · simp at h'; exact h' ▸ h
              · simp; exact or_congr Iff.rfl eq_comm
theorem mC: ∀ {l:List κ} {os:List (Option κ)} {x:κ},x∈nbS l os↔x∈l\/some x∈os
 | l,[],x=>by simp[nbS]
 | l,o::os,x=>by
  show x∈nbS (nbL l o) os↔_
  rw[mC,GO,List.mem_cons,or_assoc]
  exact or_congr Iff.rfl (or_congr eq_comm Iff.rfl)
theorem gQ {l:List κ} {x:κ} (h:x∈l):nbL l (some x)=l:=by simp[nbL,h]
theorem gl {l:List κ} {x:κ} (h:x∉l):nbL l (some x)=l++ [x]:=by simp[nbL,h]
theorem lZ {l:List κ} {x:κ} (h:x∉l):l.idxOf x=l.length:=List.idxOf_eq_length h
def bfS (nx:κ->List (Option κ)) (first:κ):Nat->List κ
 | 0=>[first]
 | i+1=>match (bfS nx first i)[i]? with
  | some x=>nbS (bfS nx first i) (nx x)
  | none=>bfS nx first i
def bfR (nx:κ->List (Option κ)) (first:κ):Nat->List (List Int)
 | 0=>[]
 | i+1=>bfR nx first i++(match (bfS nx first i)[i]? with
  | some x=>[nbR (bfS nx first i) (nx x)]
  | none=>[])
variable {nx:κ->List (Option κ)} {first:κ}
theorem sW {i:Nat} (h:i<(bfS nx first i).length):bfS nx first (i+1)=nbS (bfS nx first i) (nx ((bfS nx first i)[i])):=by
 rw[bfS,List.getElem?_eq_getElem h]
theorem oC {i:Nat} (h:i<(bfS nx first i).length):bfR nx first (i+1)=bfR nx first i++ [nbR (bfS nx first i) (nx ((bfS nx first i)[i]))]:=by
 rw[bfR,List.getElem?_eq_getElem h]
theorem bI (i:Nat):bfS nx first i <+:bfS nx first (i+1):=by
 rw[bfS]
 split
 ·exact g9 _ _
 ·exact List.prefix_refl _
theorem jT {i j:Nat} (h:i<=j):bfS nx first i <+:bfS nx first j:=by
 induction h with
 | refl=>exact List.prefix_refl _
 | step _ ih=>exact ih.trans (bI _)
theorem jl: ∀i,(bfS nx first i).Nodup
 | 0=>by simp[bfS]
 | i+1=>by
  rw[bfS]
  split
  ·exact lY (jl i)
  ·exact jl i
theorem eW {G:κ->Prop} (h0:G first) (h: ∀x,G x-> ∀y,some y∈nx x->G y): ∀i,∀x∈bfS nx first i,G x
 | 0=>by simp[bfS];exact h0
 | i+1=>by
  rw[bfS]
  split
  ·rename_i y hy
   intro x hx
   rcases mC.1 hx with hx | hx
   ·exact eW h0 h i x hx
   ·exact h y (eW h0 h i y (List.mem_of_getElem? hy)) x hx
  ·exact eW h0 h i
theorem nO (i:Nat):(bfS nx first i)[0]? =some first:=by
 obtain ⟨t,ht⟩:=jT (nx:=nx) (first:=first) (Nat.zero_le i)
 rw[<-ht];rfl
theorem ga: ∀ {i:Nat},(∀j,j<i->j<(bfS nx first j).length)->(bfR nx first i).length=i
 | 0,_=>rfl
 | i+1,h=>by rw[oC (h i (by omega)),ah,ga fun j hj=>h j (by omega)];rfl
def bfE (nx:κ->List (Option κ)) (first:κ) (N:Nat):Prop:=N=(bfS nx first N).length/\ ∀i,i<N->i<(bfS nx first i).length
theorem GP {B:Nat} (hB: ∀i,(bfS nx first i).length<=B): ∃N,N<=B/\bfE nx first N:=by
 have key: ∀m i,i+m=B->(∀j,j<i->j<(bfS nx first j).length)-> ∃N,N<=B/\bfE nx first N:=by
  intro m
  induction m with
  | zero =>
   intro i hi hj
   have h1:=hB i
   have h2:i<=(bfS nx first i).length:=by
    cases i with
    | zero=>omega
    | succ i =>
     have:=hj i (by omega)
     have hp:=(bI (nx:=nx) (first:=first) i).length_le
     omega
   exact ⟨i,by omega,by omega,hj⟩
  | succ m ih =>
   intro i hi hj
   by_cases h:i<(bfS nx first i).length
   ·exact ih (i+1) (by omega) fun j hj'=>by
     by_cases e:j=i
     ·subst e;exact h
     ·exact hj j (by omega)
   ·have h2:i<=(bfS nx first i).length:=by
     cases i with
     | zero=>omega
     | succ i =>
      have:=hj i (by omega)
      have hp:=(bI (nx:=nx) (first:=first) i).length_le
      omega
    exact ⟨i,by omega,by omega,hj⟩
 exact key B 0 (by omega) (by omega)
theorem CH {N M:Nat} (h:bfE nx first N) (k:bfE nx first M):N=M:=by
 rcases Nat.lt_trichotomy N M with e | e | e
 ·have:=k.2 N e;have:=h.1;omega
 ·exact e
 ·have:=h.2 M e;have:=k.1;omega
end
end D
namespace D
open Go.RowKit
abbrev AutT:=Int×(List Bool)×(List (List Int))
structure VA (a:AutT) (n:Nat):Prop where
 len:a.2.1.length=n
 start:0<=a.1/\a.1<n
 nlen:a.2.2.length=n
 row: ∀r∈a.2.2,r.length=9
 ent: ∀r∈a.2.2,∀t∈r,-1<=t/\t<n
def mv (a:AutT) (s:Int) (k:Nat):Int:=nth (nth a.2.2 s) k
theorem N7 (x l h:Int):jG x l h=some (decide (l<=x/\x<=h)):=by
 unfold jG
 by_cases c:l<=x
 ·simp[c]
 ·have: ¬l<=x/\True:=⟨c,trivial⟩
  simp[c]
theorem Qd (x l h:Int):iL x l h=some (decide (l<=x/\x<=h)):=by
 unfold iL
 by_cases c:l<=x
 ·simp[c]
 ·simp[c]
theorem scan {α R:Type} [Inhabited α] {f:Int->Option (Out R Int)} (xs:List α) (p:α->Prop) [DecidablePred p] (r:R) (hN:xs.length<=9223372036854775807)
  (h: ∀i:Nat,i<xs.length->f (i:Int)=some (if p (nth xs i) then .nxt ((i+1:Nat):Int) else .ret r)) (he:f (xs.length:Int)=some (.brk (xs.length:Int))) :
  (aF f br 0=some (.brk (xs.length:Int))/\ ∀x∈xs,p x)\/(aF f br 0=some (.ret r)/\ ¬ ∀x∈xs,p x):=by
 obtain ⟨o,e,hq⟩:=cM (f:=f) (fun i s=>s=(i:Int)/\ ∀j:Nat,j<i->p (nth xs j)) (fun o=>(o= .brk (xs.length:Int)/\ ∀x∈xs,p x)\/(o= .ret r/\ ¬ ∀x∈xs,p x)) xs.length (s:=0) (by
  rintro i s hi ⟨rfl,hp⟩
  by_cases hl:i<xs.length
  ·by_cases c:p (nth xs i)
   ·refine .inl ⟨hl,_,by rw[h i hl,if_pos c],rfl,fun j hj=>?_⟩
    by_cases e:j=i
    ·subst e;exact c
    ·exact hp j (by omega)
   ·refine .inr ⟨_,by rw[h i hl,if_neg c],(fun s' e=>by cases e),.inr ⟨rfl,fun hx=>c (hx _ (eH (by omega) (by omega)))⟩⟩
  ·obtain rfl:i=xs.length:=by omega
   refine .inr ⟨_,he,(fun s' e=>by cases e),.inl ⟨rfl,fun x hx=>?_⟩⟩
   obtain ⟨j,hj,rfl⟩:=Bs hx
   exact hp j hj) ⟨rfl,by omega⟩ (m6 hN)
 rcases hq with ⟨rfl,hq⟩ | ⟨rfl,hq⟩
 ·exact .inl ⟨e,hq⟩
 ·exact .inr ⟨e,hq⟩
section
variable {a:AutT} {n:Nat} (V:VA a n)
include V
theorem VA.pos:0<n:=by have:=V.start;omega
theorem VA.rowAt {s:Int} (h0:0<=s) (h1:s<n):(nth a.2.2 s).length=9:=V.row _ (eH h0 (by rw[V.nlen];exact h1))
theorem VA.mv {s:Int} {k:Nat} (h0:0<=s) (h1:s<n) (hk:k<9): -1<=mv a s k/\mv a s k<n:=
 V.ent _ (eH h0 (by rw[V.nlen];exact h1)) _ (eH (by omega) (by rw[V.rowAt h0 h1];omega))
theorem VA.get {s:Int} (h0:0<=s) (h1:s<n):bj a.2.2 s=some (nth a.2.2 s):=aG h0 (by rw[V.nlen];exact h1)
theorem VA.get2 {s:Int} {k:Nat} (h0:0<=s) (h1:s<n) (hk:k<9):bj (nth a.2.2 s) (k:Int)=some (D.mv a s k):=aG (by omega) (by rw[V.rowAt h0 h1];omega)
theorem VA.acc {s:Int} (h0:0<=s) (h1:s<n):bj a.2.1 s=some (nth a.2.1 s):=aG h0 (by rw[V.len];exact h1)
theorem Pf {s:Int} {k:Nat} (h0:0<=s) (h1:s<n) (hk:k<9):dQ a s (k:Int)=some (mv a s k):=by
 unfold dQ gV
 rw[if_neg (by simp;omega),Qd];simp only[aa]
 rw[if_pos (by simp;omega),V.get h0 h1];simp only[aa]
 rw[V.get2 h0 h1 hk];rfl
end
end D
namespace D
open Go.RowKit
abbrev Tok:=Int×Int×Int×Int
def ar (t:Tok):Int:=
 if t.1=1\/t.1=2 then (if t.2.1=0/\t.2.2.1=0/\t.2.2.2=0 then 0 else -1)
 else if t.1=3 then (if (0<=t.2.1/\t.2.1<=8)/\t.2.2.1=0/\t.2.2.2=0 then 0 else -1)
 else if t.1=4\/t.1=5 then (if t.2.1=0/\t.2.2.1=0/\t.2.2.2=0 then 2 else -1)
 else if t.1=6 then (if t.2.1=0/\t.2.2.1=0/\t.2.2.2=0 then 1 else -1)
 else if t.1=7 then (if t.2.1=0/\(0<=t.2.2.1/\t.2.2.1<=t.2.2.2)/\(1<=t.2.2.2/\t.2.2.2<=3) then 1 else -1)
 else -1
theorem JM (x:Int):jc x=some (decide (0<=x/\x<=8)):=by unfold jc;rw[N7];rfl
theorem JN (x:Int):gV x=some (decide (0<=x/\x<=8)):=by unfold gV;rw[Qd];rfl
theorem Rh (t:Tok):j9 t=some (ar t):=by
 obtain ⟨k,l,lo,hi⟩:=t
 unfold j9 ar
 simp only[JM,N7,aa]
 by_cases h1:k=1
 ·subst h1;simp;grind
 by_cases h2:k=2
 ·subst h2;simp;grind
 by_cases h3:k=3
 ·subst h3;simp;grind
 by_cases h4:k=4
 ·subst h4;simp;grind
 by_cases h5:k=5
 ·subst h5;simp;grind
 by_cases h6:k=6
 ·subst h6;simp;grind
 by_cases h7:k=7
 ·subst h7;simp;grind
 simp[h1,h2,h3,h4,h5,h6,h7]
theorem Pg (t:Tok):mr t=some (decide (0<=ar t)):=by
 obtain ⟨k,l,lo,hi⟩:=t
 unfold mr ar
 simp only[JN,Qd,aa]
 by_cases h1:k=1
 ·subst h1;simp;grind
 by_cases h2:k=2
 ·subst h2;simp;grind
 by_cases h3:k=3
 ·subst h3;simp only[]
  by_cases a:0<=l/\l<=8 <;> by_cases b:lo=0 <;> by_cases c:hi=0 <;> simp[a,b,c]
 by_cases h4:k=4
 ·subst h4;simp;grind
 by_cases h5:k=5
 ·subst h5;simp;grind
 by_cases h6:k=6
 ·subst h6;simp;grind
 by_cases h7:k=7
 ·subst h7;simp only[]
  by_cases a:l=0 <;> by_cases b:0<=lo/\lo<=hi <;> by_cases c:1<=hi/\hi<=3 <;> simp[a,b,c]
 simp[h1,h2,h3,h4,h5,h6,h7]
theorem qC (t:Tok): -1<=ar t/\ar t<=2:=by
 unfold ar
 grind
theorem iQ {t:Tok} (h:0<=ar t):(ar t=2/\(t.1=4\/t.1=5))\/(ar t=1/\(t.1=6\/t.1=7))\/(ar t=0/\(t.1=1\/t.1=2\/t.1=3)):=by
 unfold ar at h⊢
 grind
theorem uT {t:Tok} (h:0<=ar t) (k:t.1=7):(0<=t.2.2.1/\t.2.2.1<=t.2.2.2)/\(1<=t.2.2.2/\t.2.2.2<=3):=by
 unfold ar at h
 grind
mutual
def flat:Tr Tok->List Tok
 | .nil=>[]
 | .node t ks=>gR ks++ [t]
def gR:List (Tr Tok)->List Tok
 | [] =>[]
 | k::ks=>flat k++gR ks
end
inductive WT:Tr Tok->Prop
 | node {t:Tok} {ks:List (Tr Tok)} :ar t=(ks.length:Int)->(∀k,k∈ks->WT k)->WT (.node t ks)
theorem l5: ∀(a b:List (Tr Tok)),gR (a++b)=gR a++gR b
 | [],b=>rfl
 | k::a,b=>by rw[List.cons_append,gR,gR,l5 a b,ai]
theorem jm (x:Tr Tok):gR [x] =flat x:=by rw[gR,gR,List.append_nil]
theorem GQ (x y:Tr Tok):gR [x,y] =flat x++flat y:=by rw[gR,jm]
theorem WT.cases {x:Tr Tok} (h:WT x):(∃t,x= .node t [] /\ar t=0)\/(∃t a,x= .node t [a] /\ar t=1/\WT a)\/ ∃t a b,x= .node t [a,b] /\ar t=2/\WT a/\WT b:=by
 cases h with
 | @node t ks h1 h2 =>
  have:=(qC t).2
  match ks,h1,h2 with
  | [],h1,h2=>exact .inl ⟨t,rfl,h1⟩
  | [a],h1,h2=>exact .inr (.inl ⟨t,a,rfl,h1,h2 a (by simp)⟩)
  | [a,b],h1,h2=>exact .inr (.inr ⟨t,a,b,rfl,h1,h2 a (by simp),h2 b (by simp)⟩)
  | _::_::_::_,h1,h2=>simp at h1;omega
theorem WT.ind {p:Tr Tok->Prop} (h0: ∀t,ar t=0->p (.node t [])) (h1: ∀t a,ar t=1->WT a->p a->p (.node t [a])) (h2: ∀t a b,ar t=2->WT a->WT b->p a->p b->p (.node t [a,b])) {x:Tr Tok} (h:WT x):p x:=by
 induction h with
 | @node t ks e k ih =>
  have:=(qC t).2
  match ks,e,k,ih with
  | [],e,k,ih=>exact h0 t e
  | [a],e,k,ih=>exact h1 t a e (k a (by simp)) (ih a (by simp))
  | [a,b],e,k,ih=>exact h2 t a b e (k a (by simp)) (k b (by simp)) (ih a (by simp)) (ih b (by simp))
  | _::_::_::_,e,_,_=>simp at e;omega
theorem uU (t:Tok):flat (.node t [])= [t]:=by rw[flat,gR];rfl
theorem vN (t:Tok) (a:Tr Tok):flat (.node t [a])=flat a++ [t]:=by rw[flat,jm]
theorem oL (t:Tok) (a b:Tr Tok):flat (.node t [a,b])=(flat a++flat b)++ [t]:=by rw[flat,GQ]
theorem WT.pos {x:Tr Tok} (h:WT x):1<=(flat x).length:=by
 cases h with
 | node h1 h2=>rw[flat];simp
def stp (s:List (Tr Tok)) (t:Tok):Option (List (Tr Tok)):=if ar t<0\/(s.length:Int)<ar t then none else some (s.take (s.length - (ar t).toNat)++ [.node t (s.drop (s.length - (ar t).toNat))])
def run:List (Tr Tok)->List Tok->Option (List (Tr Tok))
 | s,[] =>some s
 | s,t::l=>(stp s t).bind fun s'=>run s' l
theorem xZ: ∀(a:List Tok) {b:List Tok} {s:List (Tr Tok)},run s (a++b)=(run s a).bind fun s'=>run s' b
 | [],b,s=>rfl
 | t::a,b,s=>by
  rw[List.cons_append,run,run]
  cases stp s t with
  | none=>rfl
  | some s'=>exact xZ a
theorem qD {a:List Tok} {t:Tok} {s:List (Tr Tok)} :run s (a++ [t])=(run s a).bind fun s'=>stp s' t:=by
 rw[xZ]
 congr 1
 funext s'
 rw[run]
 cases stp s' t <;> rfl
theorem K7: ∀ {l:List Tok} {s s':List (Tr Tok)},run s l=some s'->(∀k,k∈s->WT k)->(∀k,k∈s'->WT k)/\gR s'=gR s++l
 | [],s,s',h,hs=>by
  obtain rfl:=ae h
  exact ⟨hs,by simp⟩
 | t::l,s,s',h,hs=>by
  rw[run] at h
  unfold stp at h
  by_cases c:ar t<0\/(s.length:Int)<ar t
  ·rw[if_pos c] at h;cases h
  ·rw[if_neg c] at h
   have hlen:(s.drop (s.length - (ar t).toNat)).length=(ar t).toNat:=by rw[aT];omega
   obtain ⟨k1,k2⟩:=K7 (show run _ l=some s' from h) fun k hk=>by
    rcases aD hk with hk | hk
    ·exact hs k (List.mem_of_mem_take hk)
    ·obtain rfl:=ak hk
     exact .node (by rw[hlen];omega) fun k hk=>hs k (List.mem_of_mem_drop hk)
   refine ⟨k1,?_⟩
   rw[k2,l5,jm,flat,<-ai,<-l5,List.take_append_drop]
   simp
theorem JO {x:Tr Tok} (h:WT x): ∀s,run s (flat x)=some (s++ [x]):=by
 refine WT.ind (p:=fun x=> ∀s,run s (flat x)=some (s++ [x])) ?_ ?_ ?_ h
 ·intro t e s
  rw[uU,run,stp,if_neg (by omega),e]
  simp[run]
 ·intro t a e _ ia s
  rw[vN,qD,ia]
  show stp (s++ [a]) t=_
  rw[stp,if_neg (by simp;omega),e]
  simp
 ·intro t a b e _ _ ia ib s
  rw[oL,qD,xZ,ia]
  show ((run (s++ [a]) (flat b)).bind fun s'=>stp s' t)=_
  rw[ib]
  show stp (s++ [a] ++ [b]) t=_
  rw[stp,if_neg (by simp;omega),e]
  have:(s++ [a] ++ [b]).length - (2:Int).toNat=s.length:=by simp
  rw[this]
  simp
def isX (e:List Tok):Bool:=match run [] e with
 | some [_] =>true
 | _=>false
theorem CI {e:List Tok} (h:isX e=true): ∃x,run [] e=some [x] /\WT x/\flat x=e:=by
 unfold isX at h
 split at h
 ·rename_i x hx
  obtain ⟨k1,k2⟩:=K7 hx (fun k hk=>by cases hk)
  refine ⟨x,hx,k1 x (by simp),?_⟩
  rw[jm] at k2
  rw[k2];rfl
 ·cases h
theorem GR {l:List Tok} : ∀ {s s':List (Tr Tok)},run s l=some s'->s'.length<=s.length+l.length:=by
 induction l with
 | nil=>intro s s' h;obtain rfl:=ae h;simp
 | cons t l ih =>
  intro s s' h
  rw[run] at h
  obtain ⟨s1,h1,h2⟩:=Option.bind_eq_some_iff.1 h
  have h3:=ih h2
  unfold stp at h1
  split at h1
  ·cases h1
  ·obtain rfl:=ae h1
   simp only[ah,aA,au,ay] at h3⊢
   omega
theorem uV {e:List Tok} {i:Nat} (h:i<e.length):e.take (i+1)=e.take i++ [nth e (i:Int)]:=by
 rw[List.take_succ_eq_append_getElem h,bN h]
theorem sX {e:List Tok} {i:Nat} (h:i<e.length) {st:List (Tr Tok)} (h1:run [] (e.take i)=some st) (h2:stp st (nth e (i:Int))=none):run [] e=none:=by
 have:run [] (e.take (i+1))=none:=by rw[uV h,qD,h1];exact h2
 rw[<-List.take_append_drop (i+1) e,xZ,this];rfl
theorem JP {e:List Tok} (he:e.length<=1048576):oe e=some (isX e):=by
 obtain ⟨o,eo,hq⟩:=cM (f:=mn e) (fun i s=> ∃st,s=((st.length:Int),(i:Int))/\run [] (e.take i)=some st) (fun o=>(o= .ret false/\run [] e=none)\/ ∃st,o= .brk ((st.length:Int),(e.length:Int))/\run [] e=some st) e.length (s:=(0,0)) (by
  rintro i s hi ⟨st,rfl,hst⟩
  have hl:=GR hst
  simp only[ay,aA] at hl
  unfold mn
  simp only[jj]
  by_cases c:i<e.length
  ·rw[if_pos (by simp;omega),aG (by omega) (by omega)];simp only[aa]
   rw[Rh];simp only[aa]
   have hr:=qC (nth e (i:Int))
   by_cases c1:ar (nth e (i:Int))<0
   ·refine .inr ⟨_,by rw[if_pos (by simpa using c1)],(fun s' e=>by cases e),.inl ⟨rfl,sX c hst ?_⟩⟩
    rw[stp,if_pos (.inl c1)]
   ·rw[if_neg (by simpa using c1)]
    by_cases c2:ar (nth e (i:Int))>(st.length:Int)
    ·refine .inr ⟨_,by rw[if_pos (by simpa using c2)],(fun s' e=>by cases e),.inl ⟨rfl,sX c hst ?_⟩⟩
     rw[stp,if_pos (.inr c2)]
    ·rw[if_neg (by simpa using c2)]
     refine .inl ⟨c,_,rfl,st.take (st.length - (ar (nth e (i:Int))).toNat)++ [.node (nth e (i:Int)) (st.drop (st.length - (ar (nth e (i:Int))).toNat))],?_,?_⟩
     ·rw[dY (n:=(st.length:Int) - ar (nth e (i:Int))) (by omega) (by omega),dY (by omega) (by omega),aC (by omega)]
      congr 1
      simp only[ah,aA,au,ay]
      omega
     ·rw[uV c,qD,hst]
      show stp st _=_
      rw[stp,if_neg (by omega)]
  ·obtain rfl:i=e.length:=by omega
   rw[List.take_of_length_le (by omega)] at hst
   exact .inr ⟨_,by rw[if_neg (by simp)],(fun s' e=>by cases e),.inr ⟨st,rfl,hst⟩⟩) ⟨[],rfl,rfl⟩ (m6 (by omega))
 unfold oe
 rcases hq with ⟨rfl,h⟩ | ⟨st,rfl,h⟩
 ·rw[dx eo];unfold isX;rw[h]
 ·rw[aE eo];unfold isX;rw[h]
  match st with
  | [] =>rfl
  | [_] =>rfl
  | _::_::_=>simp;omega
theorem QL {t:Tok} (h:0<=ar t):(Option.bind ((if t.1==4 then (some (t.1==4)) else (some (t.1==5)):Option Bool)) (fun s3=>if s3 then (some 2) else (Option.bind ((if t.1==6 then (some (t.1==6)) else (some (t.1==7)):Option Bool)) (fun s4=>if s4 then (some 1) else (some 0)))):Option Int)=some (ar t):=by
 rcases iQ h with ⟨e,k | k⟩ | ⟨e,k | k⟩ | ⟨e,k | k | k⟩ <;> rw[e] <;> simp[k]
theorem NA (t:Tok): ∃n:Int,(Option.bind ((if t.1==4 then (some (t.1==4)) else (some (t.1==5)):Option Bool)) (fun s3=>if s3 then (some 2) else (Option.bind ((if t.1==6 then (some (t.1==6)) else (some (t.1==7)):Option Bool)) (fun s4=>if s4 then (some 1) else (some 0)))):Option Int)=some n:=by
 by_cases h4:t.1=4
 ·exact ⟨2,by simp[h4]⟩
 by_cases h5:t.1=5
 ·exact ⟨2,by simp[h5]⟩
 by_cases h6:t.1=6
 ·exact ⟨1,by simp[h6]⟩
 by_cases h7:t.1=7
 ·exact ⟨1,by simp[h7]⟩
 exact ⟨0,by simp[h4,h5,h6,h7]⟩
def sE (e:List Tok):Tr Tok:=match run [] e with
 | some [x] =>x
 | _=>.nil
theorem ya {e:List Tok} (he:e.length<=1048576):jQ e=some (sE e):=by
 obtain ⟨o,eo,hq⟩:=cM (f:=mu e) (fun i s=> ∃st,s=(st,(i:Int))/\run [] (e.take i)=some st) (fun o=>(o= .ret Tr.nil/\run [] e=none)\/ ∃st,o= .brk (st,(e.length:Int))/\run [] e=some st) e.length (s:=([],0)) (by
  rintro i s hi ⟨st,rfl,hst⟩
  have hl:=GR hst
  simp only[ay,aA] at hl
  unfold mu
  simp only[jj]
  by_cases c:i<e.length
  ·rw[if_pos (by simp;omega),aG (by omega) (by omega)];simp only[aa]
   have hr:=qC (nth e (i:Int))
   by_cases c1:ar (nth e (i:Int))<0
   ·obtain ⟨n,hn⟩:=NA (nth e (i:Int))
    rw[hn];simp only[aa]
    rw[Pg];simp only[aa]
    refine .inr ⟨_,by rw[if_neg (by simp;omega)],(fun s' e=>by cases e),.inl ⟨rfl,sX c hst ?_⟩⟩
    rw[stp,if_pos (.inl c1)]
   ·rw[QL (by omega)];simp only[aa]
    rw[Pg];simp only[aa]
    rw[if_pos (by simp;omega),dY (n:=(st.length:Int) - ar (nth e (i:Int))) (by omega) (by omega)]
    by_cases c2:ar (nth e (i:Int))>(st.length:Int)
    ·refine .inr ⟨_,by rw[if_pos (by simp;omega)],(fun s' e=>by cases e),.inl ⟨rfl,sX c hst ?_⟩⟩
     rw[stp,if_pos (.inr c2)]
    ·rw[if_neg (by simp;omega),show∀p:Prop,∀ [Decidable p],p->chk p=some () from fun p _ hp=>by unfold chk;rw[if_pos hp]]
     ·simp only[aa]
      have e1:((st.length:Int) - ar (nth e (i:Int))).toNat=st.length - (ar (nth e (i:Int))).toNat:=by omega
      rw[e1,aI (by simp;omega)];simp only[aa]
      rw[aI (by simp;omega)];simp only[aa,List.nil_append,aC (show i<9223372036854775807 by omega)]
      refine .inl ⟨c,_,rfl,_,rfl,?_⟩
      rw[uV c,qD,hst]
      show stp st _=_
      rw[stp,if_neg (by omega)]
     ·omega
  ·obtain rfl:i=e.length:=by omega
   rw[List.take_of_length_le (by omega)] at hst
   exact .inr ⟨_,by rw[if_neg (by simp)],(fun s' e=>by cases e),.inr ⟨st,rfl,hst⟩⟩) ⟨[],rfl,rfl⟩ (m6 (by omega))
 unfold jQ
 rcases hq with ⟨rfl,h⟩ | ⟨st,rfl,h⟩
 ·rw[dx eo];unfold sE;rw[h]
 ·rw[aE eo];unfold sE;rw[h]
  match st with
  | [] =>rfl
  | [x] =>rfl
  | _::_::_ =>
   simp only
   rw[if_pos (by simp;omega)]
theorem oD {x:Tr Tok} (h:WT x):sE (flat x)=x:=by unfold sE;rw[JO h];rfl
theorem JQ {e:List Tok} (he:e.length<=1048576):om e=some (isX e):=by
 unfold om
 rw[ya he];simp only[aa]
 congr 1
 by_cases h:isX e=true
 ·rw[h]
  obtain ⟨x,h1,h2,h3⟩:=CI h
  have:sE e=x:=by unfold sE;rw[h1]
  rw[this]
  cases h2 with
  | node _ _=>rfl
 ·have:sE e= .nil:=by
   unfold sE
   unfold isX at h
   split
   ·rename_i x hx;rw[hx] at h;exact absurd rfl h
   ·rfl
  rw[this,Bool.eq_false_iff.2 h];rfl
theorem uW {e:List Tok} (he:e.length<=1048576):fF e=some (decide (e.length<=24)&&isX e):=by
 unfold fF
 rw[JP he]
 by_cases c:e.length<=24
 ·rw[if_pos (by simp;omega)];simp[c]
 ·rw[if_neg (by simp;omega)];simp[c]
theorem Bt {e:List Tok} (he:e.length<=1048576):ir e=some (decide (e.length<=24)&&isX e):=by
 unfold ir
 rw[JQ he]
 by_cases c:e.length<=24
 ·rw[if_pos (by simp;omega)];simp[c]
 ·rw[if_neg (by simp;omega)];simp[c]
theorem chk_of {p:Prop} [Decidable p] (h:p):chk p=some ():=by unfold chk;rw[if_pos h]
theorem NB {A:List Tok} {x:Tr Tok} (hx:WT x) (hl:(A++flat x).length<=1000000):fG (A++flat x)=some (A.length:Int):=by
 obtain ⟨s',e,ks,q1,q2,q3⟩: ∃s',aF (iS (A++flat x)) br (1,((A++flat x).length:Int))=some (.brk s')/\ ∃ks:List (Tr Tok),ks= [] /\s'.2=(A.length:Int)/\True:=by
  obtain ⟨o,eo,hq⟩:=cM (f:=iS (A++flat x)) (fun i s=> ∃ks:List (Tr Tok),(∀k,k∈ks->WT k)/\s=((ks.length:Int),(((A++gR ks).length:Nat):Int))/\i+(gR ks).length=(flat x).length/\(A++flat x).take (A++gR ks).length=A++gR ks) (fun o=> ∃s',o= .brk s'/\s'.2=(A.length:Int)) (flat x).length (s:=(1,((A++flat x).length:Int))) (by
   rintro i s hi ⟨ks,hw,rfl,hlen,htk⟩
   unfold iS
   simp only[jj]
   rcases List.eq_nil_or_concat ks with rfl | ⟨ks',y,rfl⟩
   ·refine .inr ⟨_,by rw[if_neg (by simp)],(fun s' e=>by cases e),_,rfl,?_⟩
    simp[gR]
   ·have hy:=hw y (by simp)
    cases hy with
    | @node t cs h1 h2 =>
     have hfl:gR (ks'++ [.node t cs])=gR (ks'++cs)++ [t]:=by rw[l5,jm,flat,l5,ai]
     rw[List.concat_eq_append,hfl] at hlen htk⊢
     simp only[ah,au,ay] at hlen htk hl⊢
     rw[if_pos (by simp <;> omega)]
     have hpos:IntKind.i64.wrap (((A.length+((gR (ks'++cs)).length+1):Nat):Int) - 1)=((A.length+(gR (ks'++cs)).length:Nat):Int):=by
      rw[dY (by omega) (by omega)];omega
     have hget:nth (A++flat x) ((A.length+(gR (ks'++cs)).length:Nat):Int)=t:=by
      have hlt:A.length+(gR (ks'++cs)).length<(A++flat x).length:=by rw[ah];omega
      have e1:=congrArg (fun l:List Tok=>l[A.length+(gR (ks'++cs)).length]?) htk
      rw[List.getElem?_take_of_lt (by omega),List.getElem?_eq_getElem hlt,<-ai,List.getElem?_append_right (by rw[ah];omega),ah] at e1
      rw[bN hlt]
      simpa using e1
     rw[hpos,aG (by omega) (by simp only[ah];omega),hget];simp only[aa]
     rw[Rh,h1];simp only[aa]
     have hcl:(cs.length:Int)<=2:=by rw[<-h1];exact (qC t).2
     have hkl:ks'.length<=(gR (ks'++cs)).length+1000000:=by
      have: ∀l:List (Tr Tok),(∀k,k∈l->WT k)->l.length<=(gR l).length:=by
       intro l
       induction l with
       | nil=>intro _;simp
       | cons k l ih =>
        intro h
        have h1:=(h k (by simp)).pos
        have h2:=ih fun k hk=>h k (by simp[hk])
        rw[gR];simp only[au,ah];omega
      have:=this ks' fun k hk=>hw k (by simp[hk])
      rw[l5,ah];omega
     refine .inl ⟨by omega,_,rfl,ks'++cs,fun k hk=>?_,?_,by omega,?_⟩
     ·rcases aD hk with hk | hk
      ·exact hw k (by simp[hk])
      ·exact h2 k hk
     ·rw[dY (n:=((ks'.length+1:Nat):Int) - 1) (by omega) (by omega),dY (by omega) (by omega)]
      congr 1
      (simp only[ah]) <;> omega
     ·have e1:=congrArg (List.take (A++gR (ks'++cs)).length) htk
      rw[List.take_take,Nat.min_eq_left (by rw[ah];omega),<-ai,List.take_left] at e1
      rw[ah] at e1
      exact e1) ⟨[x],fun k hk=>by (obtain rfl:=ak hk;exact hx),by rw[jm];rfl,by rw[jm];omega,by rw[jm,List.take_length]⟩ (m6 (by rw[ah] at hl;omega))
  obtain ⟨s',rfl,h2⟩:=hq
  exact ⟨s',eo,[],rfl,h2,trivial⟩
 unfold fG
 rw[aE e,q2]
end D
namespace D
open Go.RowKit
instance trInh {α:Type} :Inhabited (Tr α):=⟨.nil⟩
def szX:Tr Tok->Int
 | .nil=>0
 | .node t ks=>min (szL t 1 ks) 100000
where szL (t:Tok) (acc:Int):List (Tr Tok)->Int
 | [] =>acc
 | k::ks=>szL t (acc+(if t.1=7 then (szX k+3)*t.2.2.2 else szX k)) ks
theorem dy {x:Tr Tok} (h:WT x):1<=szX x/\szX x<=100000:=by
 refine WT.ind (p:=fun x=>1<=szX x/\szX x<=100000) ?_ ?_ ?_ h
 ·intro t _
  show 1<=min (1:Int) 100000/\min (1:Int) 100000<=100000
  omega
 ·intro t a e _ ih
  show 1<=min ((1:Int)+(if t.1=7 then (szX a+3)*t.2.2.2 else szX a)) 100000/\min ((1:Int)+(if t.1=7 then (szX a+3)*t.2.2.2 else szX a)) 100000<=100000
  split
  ·rename_i k
   have hr:=uT (show 0<=ar t by omega) k
   have:0<=(szX a+3)*t.2.2.2:=Int.mul_nonneg (by omega) (by omega)
   omega
  ·omega
 ·intro t a b e _ _ iha ihb
  have k:t.1≠7:=by
   rcases iQ (show 0<=ar t by omega) with ⟨_,k⟩ | ⟨k,_⟩ | ⟨k,_⟩ <;> omega
  show 1<=min ((1:Int)+(if t.1=7 then (szX a+3)*t.2.2.2 else szX a)+(if t.1=7 then (szX b+3)*t.2.2.2 else szX b)) 100000/\min ((1:Int)+(if t.1=7 then (szX a+3)*t.2.2.2 else szX a)+(if t.1=7 then (szX b+3)*t.2.2.2 else szX b)) 100000<=100000
  rw[if_neg k,if_neg k]
  omega
theorem zX {a h:Int} (h1:1<=a/\a<=100000) (h2:1<=h/\h<=3):IntKind.i64.wrap ((IntKind.i64.wrap (a+3))*h)=(a+3)*h:=by
 rw[dY (n:=a+3) (by omega) (by omega)]
 have k1:0<=(a+3)*h:=Int.mul_nonneg (by omega) (by omega)
 have k2:(a+3)*h<=100003*3:=Int.mul_le_mul (by omega) (by omega) (by omega) (by omega)
 exact dY (by omega) (by omega)
theorem GS {a h:Int} (h1:1<=a/\a<=100000) (h2:1<=h/\h<=3):0<=(a+3)*h/\(a+3)*h<=300009:=by
 have k1:0<=(a+3)*h:=Int.mul_nonneg (by omega) (by omega)
 have k2:(a+3)*h<=100003*3:=Int.mul_le_mul (by omega) (by omega) (by omega) (by omega)
 omega
theorem l6 {t:Tok} {ks:List (Tr Tok)} :Tr.get (.node t ks)=some (t,ks):=rfl
theorem rD {f:Tr Tok->Option Int} {t:Tok} {ks:List (Tr Tok)} {i:Nat} {acc:Int} (hi:i<ks.length) (hf:f (nth ks (i:Int))=some (szX (nth ks (i:Int)))) (hw:WT (nth ks (i:Int))) (ht:0<=ar t) (ha:0<=acc/\acc<=1000000) (hik:i<=1000000) :
  bB f (.node t ks) (t,ks) (acc,(i:Int))=some (.nxt (acc+(if t.1=7 then (szX (nth ks (i:Int))+3)*t.2.2.2 else szX (nth ks (i:Int))),((i+1:Nat):Int))):=by
 unfold bB
 simp only[l6]
 have hr:=dy hw
 rw[if_pos (by simp <;> omega),aG (by omega) (by omega)];simp only[aa]
 by_cases k:t.1=7
 ·have h7:=uT ht k
  have hm:=GS hr h7.2
  rw[if_pos (by simpa using k),if_pos k,hf];simp only[aa]
  rw[zX hr h7.2,dY (by omega) (by omega),aC (by omega)]
 ·rw[if_neg (by simpa using k),if_neg k,hf];simp only[aa]
  rw[dY (by omega) (by omega),aC (by omega)]
theorem sY {α:Type} [Inhabited α] {a:α} {l:List α} :nth (a::l) ((0:Nat):Int)=a:=rfl
theorem GT {α:Type} [Inhabited α] {a b:α} {l:List α} :nth (a::b::l) ((1:Nat):Int)=b:=rfl
theorem NC {x:Tr Tok} (h:WT x): ∀n,(flat x).length<=n->bJ n x=some (szX x):=by
 refine WT.ind (p:=fun x=> ∀n,(flat x).length<=n->bJ n x=some (szX x)) ?_ ?_ ?_ h
 ·intro t e n hn
  rw[uU] at hn
  match n,hn with
  | n+1,_ =>
   rw[bJ];simp only[l6,aa]
   have hL:aF (bB (bJ n) (.node t []) (t,[])) br (1,0)=some (.brk (1,0)):=bg (f:=bB (bJ n) (.node t []) (t,[])) (fun i=>(1,(i:Int))) 0 (fun i hi=>by omega) (by unfold bB;simp) (by unfold br;omega)
   rw[aE hL]
   all_goals rfl
 ·intro t a e wa ih n hn
  rw[vN,ah] at hn
  match n,hn with
  | n+1,hn =>
   have hr:=dy wa
   rw[bJ];simp only[l6,aa]
   have hL:aF (bB (bJ n) (.node t [a]) (t,[a])) br (1,0)=some (.brk (szX.szL t 1 [a],1)):=bg (f:=bB (bJ n) (.node t [a]) (t,[a])) (fun i=>(szX.szL t 1 ([a].take i),(i:Int))) 1 (fun i hi=>by
    obtain rfl:i=0:=by omega
    exact rD (acc:=1) (i:=0) (by simp) (ih n (by simp at hn;omega)) wa (by omega) (by omega) (by omega)) (by unfold bB;simp) (by unfold br;omega)
   rw[aE hL]
   all_goals rfl
 ·intro t a b e wa wb iha ihb n hn
  rw[oL,ah,ah] at hn
  match n,hn with
  | n+1,hn =>
   have hra:=dy wa
   have hrb:=dy wb
   have k:t.1≠7:=by
    rcases iQ (show 0<=ar t by omega) with ⟨_,k⟩ | ⟨k,_⟩ | ⟨k,_⟩ <;> omega
   rw[bJ];simp only[l6,aa]
   have hL:aF (bB (bJ n) (.node t [a,b]) (t,[a,b])) br (1,0)=some (.brk (szX.szL t 1 [a,b],2)):=bg (f:=bB (bJ n) (.node t [a,b]) (t,[a,b])) (fun i=>(szX.szL t 1 ([a,b].take i),(i:Int))) 2 (fun i hi=>by
    have:i=0\/i=1:=by omega
    rcases this with rfl | rfl
    ·exact rD (acc:=1) (i:=0) (by simp) (iha n (by simp at hn;omega)) wa (by omega) (by omega) (by omega)
    ·exact rD (acc:=1+(if t.1=7 then (szX a+3)*t.2.2.2 else szX a)) (i:=1) (by simp) (ihb n (by simp at hn;omega)) wb (by omega) (by rw[if_neg k];omega) (by omega)) (by unfold bB;simp) (by unfold br;omega)
   rw[aE hL]
   all_goals rfl
theorem gJ {A:List Tok} {t:Tok} (h:A.length<=1000000):bj (A++ [t]) (IntKind.i64.wrap (((A++ [t]).length:Int) - 1))=some t/\IntKind.i64.wrap (((A++ [t]).length:Int) - 1)=(A.length:Int):=by
 have e:IntKind.i64.wrap (((A++ [t]).length:Int) - 1)=(A.length:Int):=by
  rw[dY (by simp only[ah,au,ay];omega) (by simp only[ah,au,ay];omega)]
  simp only[ah,au,ay];omega
 refine ⟨?_,e⟩
 rw[e,aG (by omega) (by simp only[ah,au,ay];omega),bN (by simp)]
 simp
theorem Ri {t:Tok} (h:ar t=2):(if t.1==4 then (some (t.1==4)) else (some (t.1==5)):Option Bool)=some true:=by
 rcases iQ (show 0<=ar t by omega) with ⟨_,k | k⟩ | ⟨e,_⟩ | ⟨e,_⟩
 ·simp[k]
 ·simp[k]
 ·omega
 ·omega
theorem JR {t:Tok} (h:ar t=1\/ar t=0):(if t.1==4 then (some (t.1==4)) else (some (t.1==5)):Option Bool)=some false:=by
 rcases iQ (show 0<=ar t by omega) with ⟨e,k⟩ | ⟨e,k | k⟩ | ⟨e,k | k | k⟩
 ·omega
 all_goals simp[k]
theorem Ph {t:Tok} (h:ar t=0):(t.1==6)=false/\(t.1==7)=false:=by
 rcases iQ (show 0<=ar t by omega) with ⟨e,k⟩ | ⟨e,k | k⟩ | ⟨e,k | k | k⟩
 ·omega
 ·omega
 ·omega
 all_goals simp[k]
theorem GU {t:Tok} (h:ar t=1):((t.1==6)=true/\t.1=6)\/((t.1==6)=false/\(t.1==7)=true/\t.1=7):=by
 rcases iQ (show 0<=ar t by omega) with ⟨e,k⟩ | ⟨e,k | k⟩ | ⟨e,k | k | k⟩
 ·omega
 ·left;simp[k]
 ·right;simp[k]
 all_goals omega
theorem qF {a b:Tr Tok} {t:Tok} (wb:WT b) (hl:((flat a++flat b)++ [t]).length<=1000000) :
  (((flat a++flat b)++ [t]).take ((((flat a++flat b).length:Nat):Int)).toNat)=flat a++flat b /\
  fG (flat a++flat b)=some (((flat a).length:Nat):Int) /\
  (((flat a++flat b)++ [t]).take ((((flat a).length:Nat):Int)).toNat)=flat a /\
  (flat a++flat b).drop ((((flat a).length:Nat):Int)).toNat=flat b:=by
 refine ⟨?_,NB wb (by simp only[ah,au,ay] at hl⊢;omega),?_,?_⟩
 ·rw[Int.toNat_natCast,List.take_left]
 ·rw[Int.toNat_natCast,ai,List.take_left]
 ·rw[Int.toNat_natCast,List.drop_left]
theorem K8 {x:Tr Tok} (h:WT x): ∀n,(flat x).length<=n->(flat x).length<=1000000->dn n (flat x)=some (szX x):=by
 refine WT.ind (p:=fun x=> ∀n,(flat x).length<=n->(flat x).length<=1000000->dn n (flat x)=some (szX x)) ?_ ?_ ?_ h
 ·intro t e n hn hl
  rw[uU] at hn hl⊢
  match n,hn with
  | n+1,_ =>
   have hk:=Ph e
   rw[dn]
   have:=(gJ (A:=[]) (t:=t) (by simp)).1
   rw[List.nil_append] at this
   rw[this];simp only[aa]
   rw[JR (.inr e)];simp only[aa,hk.1,hk.2,Bool.false_eq_true,if_false]
   rfl
 ·intro t a e wa ih n hn hl
  rw[vN] at hn hl⊢
  simp only[ah,au,ay] at hn hl
  match n,hn with
  | n+1,hn =>
   have hr:=dy wa
   rw[dn]
   obtain ⟨l1,l2⟩:=gJ (A:=flat a) (t:=t) (by omega)
   rw[l1];simp only[aa]
   rw[JR (.inl e)];simp only[aa,Bool.false_eq_true,if_false]
   rw[l2,Int.toNat_natCast,List.take_left,chk_of (by simp only[ah,au,ay];omega)];simp only[aa]
   rw[ih n (by omega) (by omega)];simp only[aa]
   rcases GU e with ⟨k1,k2⟩ | ⟨k1,k2,k3⟩
   ·rw[if_pos k1,dY (by omega) (by omega)]
    show some (min 100000 (szX a+1))=some (min ((1:Int)+(if t.1=7 then (szX a+3)*t.2.2.2 else szX a)) 100000)
    rw[if_neg (by omega)]
    congr 1;omega
   ·have h7:=uT (show 0<=ar t by omega) k3
    have hm:=GS hr h7.2
    rw[if_neg (by simp[k1]),if_pos k2,zX hr h7.2,dY (by omega) (by omega)]
    show some (min 100000 ((szX a+3)*t.2.2.2+1))=some (min ((1:Int)+(if t.1=7 then (szX a+3)*t.2.2.2 else szX a)) 100000)
    rw[if_pos k3]
    congr 1;omega
 ·intro t a b e wa wb iha ihb n hn hl
  rw[oL] at hn hl⊢
  obtain ⟨p1,p2,p3,p4⟩:=qF (a:=a) (t:=t) wb hl
  simp only[ah,au,ay] at hn hl
  match n,hn with
  | n+1,hn =>
   have hra:=dy wa
   have hrb:=dy wb
   have k:t.1≠7:=by
    rcases iQ (show 0<=ar t by omega) with ⟨_,k⟩ | ⟨k,_⟩ | ⟨k,_⟩ <;> omega
   rw[dn]
   obtain ⟨l1,l2⟩:=gJ (A:=flat a++flat b) (t:=t) (by rw[ah];omega)
   rw[l1];simp only[aa]
   rw[Ri e];simp only[aa,if_true]
   rw[l2,p1,p2,chk_of (by simp only[ah,au,ay];omega)];simp only[aa]
   rw[chk_of (by simp only[ah,au,ay];omega),p3,p4];simp only[aa]
   rw[iha n (by omega) (by omega),chk_of (by simp only[ah,au,ay];omega)];simp only[aa]
   rw[ihb n (by have:=wa.pos;omega) (by omega)];simp only[aa]
   rw[dY (n:=szX a+szX b) (by omega) (by omega),dY (by omega) (by omega)]
   show some (min 100000 (szX a+szX b+1))=some (min ((1:Int)+(if t.1=7 then (szX a+3)*t.2.2.2 else szX a)+(if t.1=7 then (szX b+3)*t.2.2.2 else szX b)) 100000)
   rw[if_neg k,if_neg k]
   congr 1;omega
def JS:Tr Tok:=.node (2,0,0,0) []
def Bu (x:Tr Tok):Nat->Int->Tr Tok
 | 0,_=>JS
 | h+1,low=>if 0<low then .node (4,0,0,0) [x,Bu x h (max 0 (low - 1))] else .node (5,0,0,0) [.node (4,0,0,0) [x,Bu x h (max 0 (low - 1))],JS]
mutual
def mD:Tr Tok->Tr Tok
 | .nil=>.nil
 | .node t ks=>if t.1=7 then Bu ((HU ks).headD .nil) t.2.2.2.toNat t.2.2.1 else .node t (HU ks)
def HU:List (Tr Tok)->List (Tr Tok)
 | [] =>[]
 | k::ks=>mD k::HU ks
end
theorem ar4:ar (4,0,0,0)=2:=by decide
theorem ar5:ar (5,0,0,0)=2:=by decide
theorem ar2:ar (2,0,0,0)=0:=by decide
theorem GV:WT JS:=.node ar2 fun k hk=>by cases hk
theorem qG:flat JS= [(2,0,0,0)]:=uU _
theorem WT.two {t:Tok} {a b:Tr Tok} (h:ar t=2) (ha:WT a) (hb:WT b):WT (.node t [a,b]):=.node h fun k hk=>by
 rcases ax hk with rfl | hk
 ·exact ha
 ·obtain rfl:=ak hk
  exact hb
theorem WT.one {t:Tok} {a:Tr Tok} (h:ar t=1) (ha:WT a):WT (.node t [a]):=.node h fun k hk=>by
 obtain rfl:=ak hk
 exact ha
theorem Bv {x:Tr Tok} (hx:WT x): ∀(h:Nat) (low:Int),WT (Bu x h low)
 | 0,_=>GV
 | h+1,low=>by
  rw[Bu]
  split
  ·exact .two ar4 hx (Bv hx h _)
  ·exact .two ar5 (.two ar4 hx (Bv hx h _)) GV
theorem yc (x:Tr Tok): ∀(h:Nat) (low:Int),(flat (Bu x h low)).length<=((flat x).length+3)*h+1
 | 0,_=>by rw[Bu,qG];simp
 | h+1,low=>by
  have ih:=yc x h (max 0 (low - 1))
  rw[Bu]
  split
  ·rw[oL];simp only[ah,au,ay]
   rw[Nat.mul_succ];omega
  ·rw[oL,oL,qG];simp only[ah,au,ay]
   rw[Nat.mul_succ];omega
theorem Qe {t:Tok} {a:Tr Tok} :mD (.node t [a])=if t.1=7 then Bu (mD a) t.2.2.2.toNat t.2.2.1 else .node t [mD a]:=by rw[mD,HU,HU];rfl
theorem exp2 {t:Tok} {a b:Tr Tok} (h:t.1≠7):mD (.node t [a,b])= .node t [mD a,mD b]:=by rw[mD,if_neg h,HU,HU,HU]
theorem Qf {t:Tok} (h:t.1≠7):mD (.node t [])= .node t []:=by rw[mD,if_neg h,HU]
theorem no7 {t:Tok} (h:ar t=2\/ar t=0):t.1≠7:=by
 rcases iQ (show 0<=ar t by omega) with ⟨_,k⟩ | ⟨k,_⟩ | ⟨_,k⟩ <;> omega
theorem K9 {x:Tr Tok} (h:WT x):WT (mD x):=by
 refine WT.ind (p:=fun x=>WT (mD x)) ?_ ?_ ?_ h
 ·intro t e
  rw[Qf (no7 (.inr e))]
  exact .node e fun k hk=>by cases hk
 ·intro t a e _ ih
  rw[Qe]
  split
  ·exact Bv ih _ _
  ·exact .one e ih
 ·intro t a b e _ _ iha ihb
  rw[exp2 (no7 (.inl e))]
  exact .two e iha ihb
theorem uX {x:Tr Tok} (h:WT x):szX x<100000->((flat (mD x)).length:Int)<=szX x:=by
 refine WT.ind (p:=fun x=>szX x<100000->((flat (mD x)).length:Int)<=szX x) ?_ ?_ ?_ h
 ·intro t e _
  rw[Qf (no7 (.inr e)),uU]
  show (1:Int)<=min 1 100000
  omega
 ·intro t a e wa ih hs
  have hr:=dy wa
  have hs':min ((1:Int)+(if t.1=7 then (szX a+3)*t.2.2.2 else szX a)) 100000<100000:=hs
  show _<=min ((1:Int)+(if t.1=7 then (szX a+3)*t.2.2.2 else szX a)) 100000
  rw[Qe]
  by_cases k:t.1=7
  ·rw[if_pos k] at hs'⊢
   rw[if_pos k]
   have h7:=uT (show 0<=ar t by omega) k
   have hge:szX a+3<=(szX a+3)*t.2.2.2:=by
    have:=Int.mul_le_mul_of_nonneg_left (c:=szX a+3) h7.2.1 (by omega)
    omega
   have h1:=ih (by omega)
   have h2:=yc (mD a) t.2.2.2.toNat t.2.2.1
   have h3:(((flat (mD a)).length+3)*t.2.2.2.toNat:Int)<=(szX a+3)*t.2.2.2:=by
    rw[Int.toNat_of_nonneg (by omega)]
    exact Int.mul_le_mul_of_nonneg_right (by omega) (by omega)
   have h4:((flat (Bu (mD a) t.2.2.2.toNat t.2.2.1)).length:Int)<=(((flat (mD a)).length+3)*t.2.2.2.toNat:Int)+1:=by exact_mod_cast h2
   omega
  ·rw[if_neg k] at hs'⊢
   rw[if_neg k,vN]
   have h1:=ih (by omega)
   simp only[ah,au,ay]
   omega
 ·intro t a b e wa wb iha ihb hs
  have hra:=dy wa
  have hrb:=dy wb
  have k:=no7 (.inl e)
  have hs':min ((1:Int)+(if t.1=7 then (szX a+3)*t.2.2.2 else szX a)+(if t.1=7 then (szX b+3)*t.2.2.2 else szX b)) 100000<100000:=hs
  show _<=min ((1:Int)+(if t.1=7 then (szX a+3)*t.2.2.2 else szX a)+(if t.1=7 then (szX b+3)*t.2.2.2 else szX b)) 100000
  rw[if_neg k,if_neg k] at hs'⊢
  rw[exp2 k,oL]
  have h1:=iha (by omega)
  have h2:=ihb (by omega)
  simp only[ah,au,ay]
  omega
theorem wK {x:Tr Tok} : ∀(h n:Nat) (low:Int),h<n->h<=3->0<=low->low<=3->gW n x low (h:Int)=some (Bu x h low)
 | 0,n+1,low,_,_,_,_=>by
  rw[gW,if_pos (by rfl)];rfl
 | h+1,n+1,low,h1,h2,h3,h4=>by
  rw[gW,if_neg (by simp;omega),dY (n:=low - 1) (by omega) (by omega),dY (n:=((h+1:Nat):Int) - 1) (by omega) (by omega)]
  rw[show ((h+1:Nat):Int) - 1=(h:Int) from by omega,wK h n (max 0 (low - 1)) (by omega) (by omega) (by omega) (by omega)];simp only[aa]
  rw[Bu]
  by_cases c:0<low
  ·rw[if_pos (by simpa using c),if_pos c]
  ·rw[if_neg (by simpa using c),if_neg c];rfl
theorem uY {a b:List Tok} {t:Tok} (h:a.length+b.length<=1000000):dh a b t=some ((a++b)++ [t]):=by
 unfold dh dJ
 rw[aI (by simp only[ah,au,ay];omega)];simp only[aa,List.nil_append]
 rw[aI (by omega)];simp only[aa]
 rw[aI (by simp only[ah,au,ay];omega)];rfl
theorem GW {x:Tr Tok} : ∀(h n:Nat) (low:Int),h<n->h<=3->0<=low->low<=3->(flat x).length<=100000->gU n (flat x) low (h:Int)=some (flat (Bu x h low))
 | 0,n+1,low,_,_,_,_,_=>by
  rw[gU,if_pos (by rfl),Bu,qG];rfl
 | h+1,n+1,low,h1,h2,h3,h4,h5=>by
  rw[gU,if_neg (by simp;omega),dY (n:=low - 1) (by omega) (by omega),dY (n:=((h+1:Nat):Int) - 1) (by omega) (by omega)]
  rw[show ((h+1:Nat):Int) - 1=(h:Int) from by omega,GW h n (max 0 (low - 1)) (by omega) (by omega) (by omega) (by omega) h5];simp only[aa]
  have hl:=yc x h (max 0 (low - 1))
  have hl3:((flat x).length+3)*h<=100003*3:=Nat.mul_le_mul (by omega) (by omega)
  rw[uY (by omega),Bu];simp only[aa]
  by_cases c:0<low
  ·rw[if_pos (by simpa using c),if_pos c,oL]
  ·rw[if_neg (by simpa using c),if_neg c,oL,oL,qG]
   show (jP 2).bind _=_
   unfold jP;simp only[aa]
   rw[uY (by simp only[ah,au,ay];omega)];rfl
theorem kE:1000000000000<=dE:=by rw[H9];unfold br;omega
theorem JT {x:Tr Tok} (h:WT x): ∀n,(flat x).length<=n->bp n x=some (mD x):=by
 have hF:=kE
 refine WT.ind (p:=fun x=> ∀n,(flat x).length<=n->bp n x=some (mD x)) ?_ ?_ ?_ h
 ·intro t e n hn
  rw[uU] at hn
  have k:=no7 (.inr e)
  match n,hn with
  | n+1,_ =>
   rw[bp];simp only[l6,aa]
   rw[if_neg (by simpa using k),Qf k]
   have hL:aF (a9 (bp n) (t,[])) br (0,t.1,t.2.1,t.2.2.1,t.2.2.2,[])=some (.brk (0,t.1,t.2.1,t.2.2.1,t.2.2.2,[])):=bg (f:=a9 (bp n) (t,[])) (fun i=>((i:Int),t.1,t.2.1,t.2.2.1,t.2.2.2,HU (([] :List (Tr Tok)).take i))) 0 (fun i hi=>by omega) (by unfold a9;simp) (by unfold br;omega)
   rw[aE hL]
   all_goals rfl
 ·intro t a e wa ih n hn
  rw[vN,ah] at hn
  match n,hn with
  | n+1,hn =>
   have ia:=ih n (by simp at hn;omega)
   rw[bp,Qe];simp only[l6,aa]
   rcases GU e with ⟨k1,k2⟩ | ⟨k1,k2,k3⟩
   ·rw[if_neg (by simp;omega),if_neg (by omega)]
    have hL:aF (a9 (bp n) (t,[a])) br (0,t.1,t.2.1,t.2.2.1,t.2.2.2,[])=some (.brk (1,t.1,t.2.1,t.2.2.1,t.2.2.2,[mD a])):=bg (f:=a9 (bp n) (t,[a])) (fun i=>((i:Int),t.1,t.2.1,t.2.2.1,t.2.2.2,[mD a].take i)) 1 (fun i hi=>by
     obtain rfl:i=0:=by omega
     unfold a9
     simp only
     rw[if_pos (by simp),aG (by omega) (by simp),sY];simp only[aa]
     rw[ia];simp only[aa]
     rw[aI (by simp)];rfl) (by unfold a9;simp) (by unfold br;omega)
    rw[aE hL]
    all_goals rfl
   ·have h7:=uT (show 0<=ar t by omega) k3
    rw[if_pos k2,if_pos k3,show bj [a] 0=some a from rfl];simp only[aa]
    rw[ia];simp only[aa]
    have:=wK (x:=mD a) t.2.2.2.toNat dE t.2.2.1 (by omega) (by omega) (by omega) (by omega)
    rw[Int.toNat_of_nonneg (by omega)] at this
    rw[this];rfl
 ·intro t a b e wa wb iha ihb n hn
  rw[oL,ah,ah] at hn
  have k:=no7 (.inl e)
  match n,hn with
  | n+1,hn =>
   have ia:=iha n (by simp at hn;omega)
   have ib:=ihb n (by simp at hn;omega)
   rw[bp,exp2 k];simp only[l6,aa]
   rw[if_neg (by simpa using k)]
   have hL:aF (a9 (bp n) (t,[a,b])) br (0,t.1,t.2.1,t.2.2.1,t.2.2.2,[])=some (.brk (2,t.1,t.2.1,t.2.2.1,t.2.2.2,[mD a,mD b])):=bg (f:=a9 (bp n) (t,[a,b])) (fun i=>((i:Int),t.1,t.2.1,t.2.2.1,t.2.2.2,[mD a,mD b].take i)) 2 (fun i hi=>by
    have:i=0\/i=1:=by omega
    rcases this with rfl | rfl
    ·unfold a9
     simp only
     rw[if_pos (by simp),aG (by omega) (by simp),sY];simp only[aa]
     rw[ia];simp only[aa]
     rw[aI (by simp)];rfl
    ·unfold a9
     simp only
     rw[if_pos (by simp),aG (by omega) (by simp),GT];simp only[aa]
     rw[ib];simp only[aa]
     rw[aI (by simp)];rfl) (by unfold a9;simp) (by unfold br;omega)
   rw[aE hL]
   all_goals rfl
theorem GX {x:Tr Tok} (h:WT x): ∀n out,(flat x).length<=n->out.length+(flat x).length<=1000000->be n x out=some (out++flat x):=by
 refine WT.ind (p:=fun x=> ∀n out,(flat x).length<=n->out.length+(flat x).length<=1000000->be n x out=some (out++flat x)) ?_ ?_ ?_ h
 ·intro t e n out hn hl
  rw[uU] at hn hl⊢
  simp only[au,ay] at hl
  match n,hn with
  | n+1,_ =>
   rw[be];simp only[l6,aa]
   have hL:aF (aZ (be n) (t,[])) br (0,out)=some (.brk (0,out)):=bg (f:=aZ (be n) (t,[])) (fun i=>((i:Int),out)) 0 (fun i hi=>by omega) (by unfold aZ;simp) (by unfold br;omega)
   rw[aE hL]
   simp only
   rw[aI (by simp;omega)];rfl
 ·intro t a e wa ih n out hn hl
  rw[vN] at hn hl⊢
  simp only[ah,au,ay] at hn hl
  match n,hn with
  | n+1,hn =>
   rw[be];simp only[l6,aa]
   have hL:aF (aZ (be n) (t,[a])) br (0,out)=some (.brk (1,out++flat a)):=bg (f:=aZ (be n) (t,[a])) (fun i=>((i:Int),if i=0 then out else out++flat a)) 1 (fun i hi=>by
    obtain rfl:i=0:=by omega
    unfold aZ
    simp only
    rw[if_pos (by simp),aG (by omega) (by simp),sY];simp only[aa,if_true]
    rw[ih n _ (by omega) (by omega)];rfl) (by unfold aZ;simp) (by unfold br;omega)
   rw[aE hL]
   simp only
   rw[aI (by simp;omega)];simp
 ·intro t a b e wa wb iha ihb n out hn hl
  rw[oL] at hn hl⊢
  simp only[ah,au,ay] at hn hl
  match n,hn with
  | n+1,hn =>
   rw[be];simp only[l6,aa]
   have hL:aF (aZ (be n) (t,[a,b])) br (0,out)=some (.brk (2,(out++flat a)++flat b)):=bg (f:=aZ (be n) (t,[a,b])) (fun i=>((i:Int),if i=0 then out else if i=1 then out++flat a else (out++flat a)++flat b)) 2 (fun i hi=>by
    have:i=0\/i=1:=by omega
    rcases this with rfl | rfl
    ·unfold aZ
     simp only
     rw[if_pos (by simp),aG (by omega) (by simp),sY];simp only[aa,if_true]
     rw[iha n _ (by omega) (by omega)];rfl
    ·unfold aZ
     simp only
     rw[if_pos (by simp),aG (by omega) (by simp),GT];simp only[aa,if_true]
     rw[ihb n _ (by omega) (by simp;omega)];rfl) (by unfold aZ;simp) (by unfold br;omega)
   rw[aE hL]
   simp only
   rw[aI (by simp;omega)];simp
theorem CJ {x:Tr Tok} (h:WT x): ∀n,(flat x).length<=n->(flat x).length<=1000000->szX x<=50000->cr n (flat x)=some (flat (mD x)):=by
 have hF:=kE
 refine WT.ind (p:=fun x=> ∀n,(flat x).length<=n->(flat x).length<=1000000->szX x<=50000->cr n (flat x)=some (flat (mD x))) ?_ ?_ ?_ h
 ·intro t e n hn hl hs
  rw[uU] at hn hl⊢
  match n,hn with
  | n+1,_ =>
   have hk:=Ph e
   rw[cr]
   have:=(gJ (A:=[]) (t:=t) (by simp)).1
   rw[List.nil_append] at this
   rw[this];simp only[aa]
   rw[JR (.inr e)];simp only[aa,hk.1,hk.2,Bool.false_eq_true,if_false]
   rw[Qf (no7 (.inr e)),uU]
 ·intro t a e wa ih n hn hl hs
  have hs':min ((1:Int)+(if t.1=7 then (szX a+3)*t.2.2.2 else szX a)) 100000<=50000:=hs
  rw[vN] at hn hl⊢
  simp only[ah,au,ay] at hn hl
  match n,hn with
  | n+1,hn =>
   have hr:=dy wa
   have hsa:szX a<=50000:=by
    by_cases k:t.1=7
    ·rw[if_pos k] at hs'
     have h7:=uT (show 0<=ar t by omega) k
     have hge:szX a+3<=(szX a+3)*t.2.2.2:=by
      have:=Int.mul_le_mul_of_nonneg_left (c:=szX a+3) h7.2.1 (by omega)
      omega
     omega
    ·rw[if_neg k] at hs';omega
   have hla:=uX wa (by omega)
   rw[cr]
   obtain ⟨l1,l2⟩:=gJ (A:=flat a) (t:=t) (by omega)
   rw[l1];simp only[aa]
   rw[JR (.inl e)];simp only[aa,Bool.false_eq_true,if_false]
   rw[l2,Int.toNat_natCast,List.take_left,chk_of (by simp only[ah,au,ay];omega)];simp only[aa]
   rw[ih n (by omega) (by omega) hsa,Qe];simp only[aa]
   rcases GU e with ⟨k1,k2⟩ | ⟨k1,k2,k3⟩
   ·rw[if_pos k1,if_neg (by omega),uY (by simp;omega),vN];simp
   ·have h7:=uT (show 0<=ar t by omega) k3
    rw[if_neg (by simp[k1]),if_pos k2,if_pos k3]
    have:=GW (x:=mD a) t.2.2.2.toNat dE t.2.2.1 (by omega) (by omega) (by omega) (by omega) (by omega)
    rw[Int.toNat_of_nonneg (by omega)] at this
    rw[this];rfl
 ·intro t a b e wa wb iha ihb n hn hl hs
  have k:=no7 (.inl e)
  have hs':min ((1:Int)+(if t.1=7 then (szX a+3)*t.2.2.2 else szX a)+(if t.1=7 then (szX b+3)*t.2.2.2 else szX b)) 100000<=50000:=hs
  rw[if_neg k,if_neg k] at hs'
  rw[oL] at hn hl⊢
  obtain ⟨p1,p2,p3,p4⟩:=qF (a:=a) (t:=t) wb hl
  simp only[ah,au,ay] at hn hl
  match n,hn with
  | n+1,hn =>
   have hra:=dy wa
   have hrb:=dy wb
   have hla:=uX wa (by omega)
   have hlb:=uX wb (by omega)
   rw[cr]
   obtain ⟨l1,l2⟩:=gJ (A:=flat a++flat b) (t:=t) (by rw[ah];omega)
   rw[l1];simp only[aa]
   rw[Ri e];simp only[aa,if_true]
   rw[l2,p1,p2,chk_of (by simp only[ah,au,ay];omega)];simp only[aa]
   rw[chk_of (by simp only[ah,au,ay];omega),p3,p4];simp only[aa]
   rw[iha n (by omega) (by omega) (by omega),chk_of (by simp only[ah,au,ay];omega)];simp only[aa]
   rw[ihb n (by have:=wa.pos;omega) (by omega) (by omega)];simp only[aa]
   rw[uY (by omega),exp2 k,oL];rfl
def vp (e:List Tok):List Tok×Bool:=
 if decide (e.length<=24)&&isX e then (if 5000<szX (sE e) then ([],false) else (if 400<(flat (mD (sE e))).length then ([],false) else (flat (mD (sE e)),true))) else ([],false)
theorem Bw {e:List Tok} (he:e.length<=1048576):fh e=some (vp e)/\iX e=some (vp e):=by
 have hF:=kE
 unfold fh iX vp
 rw[uW he,Bt he];simp only[aa]
 by_cases c:(decide (e.length<=24)&&isX e)=true
 ·rw[if_pos c,if_pos c,if_pos c,ya he];simp only[aa]
  rw[af] at c
  obtain ⟨x,h1,hw,rfl⟩:=CI c.2
  have h24:(flat x).length<=24:=by simpa using c.1
  have hr:=dy hw
  rw[oD hw,K8 hw dE (by omega) (by omega),NC hw dE (by omega)];simp only[aa]
  by_cases c2:5000<szX x
  ·have c2':decide (szX x>5000)=true:=by simpa using c2
   simp only[gt_iff_lt,c2,decide_true,if_true,and_self]
  ·have c2':decide (szX x>5000)=false:=by simpa using c2
   simp only[gt_iff_lt,c2,decide_false,if_false,Bool.false_eq_true]
   have hl:=uX hw (by omega)
   rw[CJ hw dE (by omega) (by omega) (by omega),JT hw dE (by omega)];simp only[aa]
   unfold mw
   rw[GX (K9 hw) dE [] (by omega) (by simp;omega)];simp only[aa,List.nil_append]
   by_cases c3:400<(flat (mD x)).length
   ·have c3':decide (((flat (mD x)).length:Int)>400)=true:=decide_eq_true (by omega)
    simp only[c3',c3,decide_true,if_true,and_self]
   ·have c3':decide (((flat (mD x)).length:Int)>400)=false:=decide_eq_false (by omega)
    simp only[c3',c3,decide_false,if_false,Bool.false_eq_true,and_self]
 ·rw[if_neg c,if_neg c,if_neg c];exact ⟨rfl,rfl⟩
theorem GY {e:List Tok} (h:(vp e).2=true): ∃y,WT y/\(vp e).1=flat y/\(flat y).length<=400:=by
 unfold vp at h⊢
 split at h
 ·rename_i c
  rw[if_pos c]
  rw[af] at c
  obtain ⟨x,h1,hw,rfl⟩:=CI c.2
  rw[oD hw] at h⊢
  split at h
  ·cases h
  ·rename_i c2
   rw[if_neg c2]
   split at h
   ·cases h
   ·rename_i c3
    rw[if_neg c3]
    exact ⟨_,K9 hw,rfl,by omega⟩
 ·cases h
end D
namespace D
open Go.RowKit
def DX (out:List Bool) (t:Int):Bool:=decide (t≥0)&&nth out t
def hit (out:List Bool) (row:List Int):Bool:=row.any (DX out)
def lf (a:AutT) (out:List Bool) (s:Nat):List Bool:=if hit out (nth a.2.2 s) then out.set s true else out
def dg (a:AutT) (out:List Bool):Nat->List Bool
 | 0=>out
 | s+1=>lf a (dg a out s) s
def cnt (out:List Bool):Nat:=out.count true
theorem Pi (out:List Bool):cnt out<=out.length:=List.count_le_length
theorem CK {out:List Bool} {s:Nat} (h:s<out.length) (k:out[s] =true):out.set s true=out:=by
 refine List.ext_getElem (by simp) fun i h1 h2=>?_
 rw[List.getElem_set]
 split
 ·rename_i e;subst e;exact k.symm
 ·rfl
theorem ND {out:List Bool} {s:Nat} (h:s<out.length) (k:out[s] =false):cnt (out.set s true)=cnt out+1:=by
 unfold cnt
 rw[List.count_set h];simp[k]
section
variable {a:AutT} {n:Nat}
theorem yd (a:AutT) (out:List Bool) (s:Nat):(lf a out s).length=out.length:=by unfold lf;split <;> simp
theorem eX (a:AutT) (out:List Bool): ∀s,(dg a out s).length=out.length
 | 0=>rfl
 | s+1=>by rw[dg,yd,eX a out s]
theorem nP {out:List Bool} {s:Nat} (h:s<out.length):(lf a out s=out/\ ¬(hit out (nth a.2.2 s)=true/\nth out s=false))\/(cnt (lf a out s)=cnt out+1/\hit out (nth a.2.2 s)=true/\nth out s=false):=by
 unfold lf
 rw[bN h]
 cases hh:hit out (nth a.2.2 s) with
 | false=>exact .inl ⟨by simp,by simp⟩
 | true =>
  cases hk:out[s] with
  | true=>exact .inl ⟨by simp[CK h hk],by simp⟩
  | false=>exact .inr ⟨by simp[ND h hk],rfl,rfl⟩
theorem oE {out:List Bool} : ∀s,s<=out.length->(dg a out s=out/\cnt (dg a out s)=cnt out)\/cnt out<cnt (dg a out s)
 | 0,_=>.inl ⟨rfl,rfl⟩
 | s+1,hs=>by
  have hl:s<(dg a out s).length:=by rw[eX];omega
  have ih:=oE (out:=out) s (by omega)
  rw[dg]
  rcases nP (a:=a) hl with ⟨e,-⟩ | ⟨e,-,-⟩
  ·rw[e];exact ih
  ·rcases ih with ⟨-,h2⟩ | h
   ·exact .inr (by omega)
   ·exact .inr (by omega)
def it (a:AutT):Nat->List Bool
 | 0=>a.2.1
 | j+1=>dg a (it a j) a.2.1.length
theorem kF (a:AutT): ∀j,(it a j).length=a.2.1.length
 | 0=>rfl
 | j+1=>by rw[it,eX,kF a j]
theorem La (a:AutT) (j:Nat):cnt (it a j)<=a.2.1.length:=by rw[<-kF a j];exact Pi _
theorem Bx (a:AutT) (j:Nat):(it a (j+1)=it a j)\/cnt (it a j)<cnt (it a (j+1)):=by
 rcases oE (a:=a) (out:=it a j) a.2.1.length (by rw[kF];exact aB _) with h | h
 ·exact .inl h.1
 ·exact .inr h
theorem Lb {j k:Nat} (h:it a (j+1)=it a j) (hk:j<=k):it a k=it a j:=by
 induction hk with
 | refl=>rfl
 | step _ ih=>rw[it,ih];exact h
theorem GZ {j k:Nat} (h:it a (j+1)=it a j) (h':it a (k+1)=it a k):it a j=it a k:=by
 rcases Nat.le_total j k with e | e
 ·exact (Lb h e).symm
 ·exact Lb h' e
theorem G0 (a : AutT) : it a (a.2.1.length + 1) = it a a.2.1.length := by
  have key : ∀ j, it a (j + 1) = it a j \/ j + 1 <= cnt (it a (j + 1)) := by
    intro j
    induction j with
    | zero => rcases Bx a 0 with h | h
              · exact .inl h
              · exact .inr (by omega)
    | succ j ih =>
      rcases Bx a (j + 1) with h | h
      · exact .inl h
      · rcases ih with h' | h'
        · left; rw [it, h']; exact h'
        · exact .inr (by omega)
  rcases key a.2.1.length with h | h
  · exact h
  · have := La a (a.2.1.length + 1); omega
def live (a:AutT):List Bool:=it a a.2.1.length
theorem mE (a:AutT):(live a).length=a.2.1.length:=kF a _
theorem CL {α:Type} [Inhabited α] {row:List α} {p:α->Bool} {k:Nat} (h:k<row.length):(row.take (k+1)).any p=((row.take k).any p || p (nth row (k:Int))):=by
 rw[List.take_succ_eq_append_getElem h,List.any_append,bN h];simp
section
variable (V:VA a n) (hn:n<=1000000)
include V hn
theorem G5 {out:List Bool} {s:Nat} (hs:s<n) (hl:out.length=n):aF (gx a (out,(s:Int))) br (out,0)=some (.brk (lf a out s,9)):=by
 have hr:=V.rowAt (s:=s) (by omega) (by omega)
 have hls:s<out.length:=by omega
 have:=bg (f:=gx a (out,(s:Int))) (fun k=>(if ((nth a.2.2 (s:Int)).take k).any (DX out) then out.set s true else out,(k:Int))) 9 (fun k hk=>by
  unfold gx
  simp only
  rw[if_pos (by simp;omega),V.get (by omega) (by omega)];simp only[aa]
  rw[V.get2 (by omega) (by omega) hk];simp only[aa]
  rw[CL (by omega),show nth (nth a.2.2 (s:Int)) (k:Int)=mv a s k from rfl]
  simp only[aC (show k<9223372036854775807 by omega)]
  by_cases c:mv a s k≥0
  ·have hset:(out.set s true).length=n:=by simp[hl]
   have hm:=(V.mv (s:=s) (k:=k) (by omega) (by omega) hk).2
   rw[if_pos (by simpa using c)]
   by_cases q:((nth a.2.2 (s:Int)).take k).any (DX out)=true
   ·simp only[q,if_true,Bool.true_or]
    rw[aG c (by rw[hset];exact hm),aG (by omega) (by rw[hset];omega)];simp only[aa,Int.toNat_natCast]
    split <;> simp
   ·simp only[q,Bool.false_eq_true,if_false,Bool.false_or,DX]
    rw[aG c (by rw[hl];exact hm),aG (by omega) (by rw[hl];omega)];simp only[aa,Int.toNat_natCast]
    cases hc:nth out (mv a s k) <;> simp[hc,c]
  ·rw[if_neg (by simpa using c)]
   simp[DX,c]) (by unfold gx;simp) (by unfold br;omega)
 have e9:(nth a.2.2 (s:Int)).take 9=nth a.2.2 (s:Int):=List.take_of_length_le (by omega)
 rw[e9] at this
 exact this
theorem zY {out:List Bool} (hl:out.length=n):aF (gy a) br (out,0)=some (.brk (dg a out n,(n:Int))):=by
 have hlen:=V.len
 refine bg (f:=gy a) (fun s=>(dg a out s,(s:Int))) n (fun s hs=>?_) ?_ (m6 (by omega))
 ·unfold gy
  simp only
  rw[if_pos (by simp;omega),aE (G5 V hn hs (by rw[eX];exact hl)),aC (by omega)]
  rfl
 ·unfold gy
  simp only
  rw[if_neg (by simp;omega)]
theorem Lc:iI a=some (live a):=by
 have hlen:=V.len
 unfold iI
 rw[aI (by simp;omega)];simp only[aa,List.nil_append]
 have:=bg (f:=iU a) (fun j=>(it a j,(j:Int))) n (fun j hj=>by
  unfold iU
  simp only
  rw[if_pos (by simp;omega),aE (zY V hn (by rw[kF];exact hlen)),aC (by omega),it,hlen]) (by
  unfold iU
  simp only
  rw[if_neg (by simp;omega)]) (m6 (by omega))
 exact (aE this).trans (by simp[live,hlen])
theorem G6 {out:List Bool} {g:Bool} {s:Nat} (hs:s<n) (hl:out.length=n):aF (cS (g,(s:Int),out) (nth a.2.2 (s:Int))) br (g,0,out)=some (.brk (g || (hit out (nth a.2.2 (s:Int)) && !nth out (s:Int)),9,lf a out s)):=by
 have hr:=V.rowAt (s:=s) (by omega) (by omega)
 have hls:s<out.length:=by omega
 have:=bg (f:=cS (g,(s:Int),out) (nth a.2.2 (s:Int))) (fun k=>(g || (((nth a.2.2 (s:Int)).take k).any (DX out) && !nth out (s:Int)),(k:Int),if ((nth a.2.2 (s:Int)).take k).any (DX out) then out.set s true else out)) 9 (fun k hk=>by
  unfold cS
  simp only
  rw[if_pos (by simp[hr];omega),V.get2 (by omega) (by omega) hk];simp only[aa]
  rw[CL (by omega),show nth (nth a.2.2 (s:Int)) (k:Int)=mv a s k from rfl]
  simp only[aC (show k<9223372036854775807 by omega)]
  by_cases c:mv a s k≥0
  ·have hset:(out.set s true).length=n:=by simp[hl]
   have hm:=(V.mv (s:=s) (k:=k) (by omega) (by omega) hk).2
   rw[if_pos (by simpa using c)]
   by_cases q:((nth a.2.2 (s:Int)).take k).any (DX out)=true
   ·simp only[q,if_true,Bool.true_or]
    have hself:nth (out.set s true) (s:Int)=true:=by
     have:=su (xs:=out) (i:=(s:Int)) (x:=true) (by omega) (by omega)
     simpa using this
    rw[aG c (by rw[hset];exact hm),aG (by omega) (by rw[hset];omega)];simp only[aa,Int.toNat_natCast,hself,if_true]
    split <;> simp
   ·simp only[q,Bool.false_eq_true,if_false,Bool.false_or,DX,Bool.false_and,Bool.or_false]
    rw[aG c (by rw[hl];exact hm),aG (by omega) (by rw[hl];omega)];simp only[aa,Int.toNat_natCast]
    cases hc:nth out (mv a s k) with
    | false=>simp[c]
    | true =>
     cases hd:nth out (s:Int) with
     | false=>simp[c]
     | true =>
      rw[bN hls] at hd
      simp[c,CK hls hd]
  ·rw[if_neg (by simpa using c)]
   simp[DX,c]) (by unfold cS;simp[hr]) (by unfold br;omega)
 have e9:(nth a.2.2 (s:Int)).take 9=nth a.2.2 (s:Int):=List.take_of_length_le (by omega)
 rw[e9] at this
 have e0:(g || (((nth a.2.2 (s:Int)).take 0).any (DX out) && !nth out (s:Int)))=g:=by simp
 rw[e0] at this
 exact this
theorem zZ {out:List Bool} (hl:out.length=n): ∃g,aF (cT a) br (false,0,out)=some (.brk (g,(n:Int),dg a out n))/\(g=true↔cnt out<cnt (dg a out n)):=by
 have hlen:=V.len
 have hnl:=V.nlen
 obtain ⟨s',e,⟨g,rfl,hg⟩⟩:=jk (f:=cT a) (fun s st=> ∃g,st=(g,(s:Int),dg a out s)/\(g=true↔cnt out<cnt (dg a out s))) n (by
  rintro s st hs ⟨g,rfl,hg⟩
  have hpl:(dg a out s).length=n:=by rw[eX];exact hl
  unfold cT
  simp only
  rw[if_pos (by simp;omega),V.get (by omega) (by omega)];simp only[aa]
  rw[aE (G6 V hn hs hpl),aC (by omega)]
  refine ⟨_,rfl,_,rfl,?_⟩
  rw[Bool.or_eq_true,af,Bool.not_eq_true',hg,dg]
  have hc:=oE (a:=a) (out:=out) s (by omega)
  rcases nP (a:=a) (out:=dg a out s) (s:=s) (by omega) with ⟨e,k⟩ | ⟨e,k⟩
  ·rw[e];exact ⟨fun h=>h.elim id fun h=>absurd h k,.inl⟩
  ·rw[e]
   exact ⟨fun _=>by rcases hc with ⟨-,h⟩ | h <;> omega,fun _=>.inr k⟩) (by
  rintro s ⟨g,rfl,hg⟩
  unfold cT
  simp only
  rw[if_neg (by simp;omega)]) ⟨false,rfl,by simp[dg]⟩ (m6 (by omega))
 exact ⟨g,e,hg⟩
theorem Pj:dP a=some (live a):=by
 have hlen:=V.len
 unfold dP
 rw[aI (by simp;omega)];simp only[aa,List.nil_append]
 obtain ⟨o,e,i,rfl,hi⟩:=cM (f:=fK a) (fun i s=> ∃b,s=(b,it a i)/\(b=true->i<=cnt (it a i))/\(b=false->it a (i+1)=it a i)) (fun o=> ∃i,o= .brk (false,it a i)/\it a (i+1)=it a i) (n+1) (s:=(true,a.2.1)) (by
  rintro i s hi ⟨b,rfl,h1,h2⟩
  unfold fK
  simp only
  cases b with
  | false=>exact .inr ⟨_,by rw[if_neg (by simp)],(fun s' e=>by cases e),i,rfl,h2 rfl⟩
  | true =>
   have hc:=La a i
   have h1:=h1 rfl
   obtain ⟨g,e,hg⟩:=zZ V hn (out:=it a i) (by rw[kF];exact hlen)
   have ee:dg a (it a i) n=it a (i+1):=by rw[it,hlen]
   rw[ee] at e hg
   refine .inl ⟨by omega,(g,it a (i+1)),by rw[if_pos rfl,aE e],g,rfl,fun h=>?_,fun h=>?_⟩
   ·have:=hg.1 h;omega
   ·have hs:it a (i+1)=it a i:=by
     rcases Bx a i with h' | h'
     ·exact h'
     ·rw[<-hg,h] at h';cases h'
    rw[it,hs];exact hs) ⟨true,rfl,fun _=>Nat.zero_le _,fun h=>by cases h⟩ (m6 (by omega))
 rw[aE e]
 have:=GZ hi (G0 a)
 simp[live,this]
end
end
end D
namespace D
open Go.RowKit
def nothing:AutT:=(0,[false],[[-1,-1,-1,-1,-1,-1,-1,-1,-1]])
theorem G7:lx=some nothing:=by kernel_rfl
theorem G8:pf=some nothing:=by kernel_rfl
theorem G9 {n:Nat} (h:n<=1000000):iOk (n:Int)=true:=by
 have h1:IntKind.i64.min= -9223372036854775808:=by decide
 have h2:IntKind.i64.max=9223372036854775807:=by decide
 simp only[iOk,Lit.wf,h1,h2,af,decide_eq_true_eq]
 omega
theorem take_one {α:Type} [Inhabited α] {xs:List α} {k:Nat} (h:k<xs.length):xs.take (k+1)=xs.take k++ [nth xs (k:Int)]:=by
 rw[List.take_succ_eq_append_getElem h,bN h]
theorem gb {α:Type} [Inhabited α] {xs ys:List α} (h:xs <+:ys) {i:Int} (h0:0<=i) (h1:i<xs.length):nth ys i=nth xs i:=by
 obtain ⟨t,rfl⟩:=h
 exact fO h0 h1
structure NumOk {κ:Type} [DecidableEq κ] (nx:κ->List (Option κ)) (first:κ) (G:κ->Prop) (B:Nat):Prop where
 g0:G first
 gn: ∀x,G x-> ∀y,some y∈nx x->G y
 len: ∀x,G x->(nx x).length=9
 bound: ∀l:List κ,l.Nodup->(∀x∈l,G x)->l.length<=B
section
variable {κ:Type} [DecidableEq κ] [Inhabited κ] {nx:κ->List (Option κ)} {first:κ} {G:κ->Prop} {B:Nat}
theorem NumOk.le (H:NumOk nx first G B) (i:Nat):(bfS nx first i).length<=B:=H.bound _ (jl i) (eW H.g0 H.gn i)
theorem NumOk.at (H:NumOk nx first G B) {i:Nat} (h:i<(bfS nx first i).length):G (nth (bfS nx first i) (i:Int)):=eW H.g0 H.gn i _ (eH (by omega) (by omega))
theorem gD {i:Nat} (h:i<(bfS nx first i).length):bfS nx first (i+1)=nbS (bfS nx first i) (nx (nth (bfS nx first i) (i:Int))):=by rw[sW h,bN h]
theorem qH {i:Nat} (h:i<(bfS nx first i).length):bfR nx first (i+1)=bfR nx first i++ [nbR (bfS nx first i) (nx (nth (bfS nx first i) (i:Int)))]:=by rw[oC h,bN h]
theorem qI {β:Type} {acc:κ->β} {i:Nat} (h:i<(bfS nx first i).length):((bfS nx first (i+1)).take (i+1)).map acc=((bfS nx first i).take i).map acc++ [acc (nth (bfS nx first i) (i:Int))]:=by
 have hp:=bI (nx:=nx) (first:=first) i
 have hl:=hp.length_le
 have e:(bfS nx first (i+1)).take i=(bfS nx first i).take i:=by
  obtain ⟨t,ht⟩:=hp
  rw[<-ht,List.take_append_of_le_length (by omega)]
 rw[take_one (by omega),aK,e,gb hp (by omega) (by omega)];rfl
def MapOf (M:List (κ×Int)) (l:List κ):Prop:=M.length=l.length/\ ∀x,M.lookup x=if x∈l then some (l.idxOf x:Int) else none
theorem MapOf.one (x:κ):MapOf [(x,0)] [x]:=by
 refine ⟨rfl,fun y=>?_⟩
 rw[List.lookup_cons]
 by_cases e:y=x
 ·subst e;simp
 ·simp only[show (y==x)=false from by simp[e]];simp[e]
theorem MapOf.put {M:List (κ×Int)} {l:List κ} (h:MapOf M l) {x:κ} (hx:x∉l):MapOf ((x,(l.length:Int))::M) (l++ [x]):=by
 refine ⟨by simp[h.1],fun y=>?_⟩
 rw[List.lookup_cons]
 by_cases e:y=x
 ·subst e
  simp[List.idxOf_append,hx]
 ·simp only[show (y==x)=false from by simp[e],h.2 y,List.mem_append,List.mem_singleton,e,or_false]
  by_cases k:y∈l
  ·simp[k,List.idxOf_append]
  ·simp[k]
end
section
variable {nx:Int->List (Option Int)} {first:Int} {G:Int->Prop} {B:Nat}
theorem Aa {p3:Int->Int->Option (Int×Bool)} {l:List Int} {M:List (Int×Int)} {os:List (Option Int)} {acs:List Bool} {rws:List (List Int)} {i:Nat}
  (hi:i<l.length) (hos:os.length=9) (hM:MapOf M l) (hok: ∀y,some y∈os->iOk y=true) (hB: ∀k,(nbS l (os.take k)).length<=1000000)
  (hp: ∀(k:Nat) (hk:k<9),∃j,p3 (nth l (i:Int)) (k:Int)=some (match nth os (k:Int) with | some y=>(y,true) | none=>(j,false))) :
  ∃M',aF (dq p3 (l,M,(i:Int),0,acs,rws)) br (l,M,[],0)=some (.brk (nbS l os,M',nbR l os,9))/\MapOf M' (nbS l os):=by
 obtain ⟨s',e,M',rfl,hM'⟩:=jk (f:=dq p3 (l,M,(i:Int),0,acs,rws)) (fun k s=> ∃M',s=(nbS l (os.take k),M',nbR l (os.take k),(k:Int))/\MapOf M' (nbS l (os.take k))) 9 (by
  rintro k s hk ⟨M1,rfl,hM1⟩
  have hpre:=g9 l (os.take k)
  have hlen:=hpre.length_le
  have hBk:=hB k
  obtain ⟨j,hj⟩:=hp k hk
  have hrl:(nbR l (os.take k)).length<=9:=by rw[dL,aA];omega
  unfold dq
  simp only
  rw[if_pos (by simp;omega),aG (by omega) (by omega)];simp only[aa]
  rw[gb hpre (by omega) (by omega),hj,take_one (by omega),oA,oB]
  simp only[aa,aC (show k<9223372036854775807 by omega)]
  cases ho:nth os (k:Int) with
  | none =>
   simp only[Bool.false_eq_true,if_false]
   rw[aI (by simp;omega)]
   exact ⟨_,rfl,M1,rfl,hM1⟩
  | some y =>
   have hy:iOk y=true:=hok y (ho ▸ eH (by omega) (by omega))
   simp only[if_true]
   rw[show chk (iOk y=true)=some () from by unfold chk;rw[if_pos hy]];simp only[aa]
   rw[show lkM M1 y=_ from hM1.2 y]
   by_cases c:y∈nbS l (os.take k)
   ·simp only[c,if_true,Option.isSome_some,Option.getD_some,aa]
    rw[aI (by simp;omega)]
    exact ⟨_,rfl,M1,by rw[gQ c];rfl,by rw[gQ c];exact hM1⟩
   ·have hput:Et M1 iOk iOk y ((nbS l (os.take k)).length:Int)=some ((y,((nbS l (os.take k)).length:Int))::M1):=by
     unfold Et
     rw[if_pos ⟨by have:=hM1.1;omega,hy,G9 hBk⟩]
    simp only[c,if_false,Option.isSome_none,Bool.false_eq_true,hput,aa]
    rw[aI (by simp;omega)];simp only[aa]
    rw[aI (by simp;omega)]
    refine ⟨_,rfl,(y,((nbS l (os.take k)).length:Int))::M1,?_,?_⟩
    ·rw[gl c];simp only[nbI,lZ c]
    ·rw[gl c];exact hM1.put c) (by
  rintro s ⟨M1,rfl,hM1⟩
  unfold dq
  simp) (s:=(l,M,[],0)) ⟨M,rfl,hM⟩ (by unfold br;omega)
 rw[List.take_of_length_le (by omega)] at e hM'
 exact ⟨M',e,hM'⟩
theorem Pm {most:Int} {p2:Int->Option Bool} {p3:Int->Int->Option (Int×Bool)} {acc:Int->Bool} (H:NumOk nx first G B) (hB:B<=1000000) (hmost:(B:Int)<=most) (hok: ∀x,G x->iOk x=true)
  (h2: ∀x,G x->p2 x=some (acc x)) (h3: ∀x (k:Nat),G x->k<9-> ∃j,p3 x (k:Int)=some (match nth (nx x) (k:Int) with | some y=>(y,true) | none=>(j,false))) :
  ∃N,bfE nx first N/\dK first most p2 p3=some ((0,(bfS nx first N).map acc,bfR nx first N),true):=by
 obtain ⟨N,hNB,hN⟩:=GP (nx:=nx) (first:=first) (H.le)
 refine ⟨N,hN,?_⟩
 unfold dK
 rw[show Et ([] :List (Int×Int)) iOk iOk first 0=some [(first,0)] from by unfold Et;rw[if_pos ⟨by simp,hok _ H.g0,by decide⟩]];simp only[aa]
 obtain ⟨s',e,M',rfl,hM'⟩:=jk (f:=bU most p2 p3) (fun i s=> ∃M,s=(bfS nx first i,M,(i:Int),0,((bfS nx first i).take i).map acc,bfR nx first i)/\MapOf M (bfS nx first i)) N (by
  rintro i s hi ⟨M,rfl,hM⟩
  have hlt:=hN.2 i hi
  have hG:=H.at hlt
  have hle:=H.le i
  have hle':=H.le (i+1)
  obtain ⟨M',e,hM'⟩:=Aa (p3:=p3) (l:=bfS nx first i) (M:=M) (os:=nx (nth (bfS nx first i) (i:Int))) (acs:=((bfS nx first i).take i).map acc) (rws:=bfR nx first i) hlt (H.len _ hG) hM (fun y hy=>hok y (H.gn _ hG y hy))
   (fun k=>by
    have:(nbS (bfS nx first i) ((nx (nth (bfS nx first i) (i:Int))).take k)).length<=B:=H.bound _ (lY (jl i)) fun x hx=>by
     rcases mC.1 hx with hx | hx
     ·exact eW H.g0 H.gn i x hx
     ·exact H.gn _ hG x (List.mem_of_mem_take hx)
    omega) (fun k hk=>h3 _ k hG hk)
  unfold bU
  simp only
  rw[if_pos (by simp;omega),aE e,<-gD hlt]
  rw[<-gD hlt] at hM'
  have hl2:=(bI (nx:=nx) (first:=first) i).length_le
  simp only
  rw[if_neg (by simp;omega),aG (by omega) (by omega)];simp only[aa]
  rw[gb (bI i) (by omega) (by omega),h2 _ hG];simp only[aa]
  have hr:(bfR nx first i).length=i:=ga fun j hj=>hN.2 j (by omega)
  rw[aI (by simp;omega)];simp only[aa]
  rw[aI (by simp;omega)];simp only[aa,aC (show i<9223372036854775807 by omega)]
  exact ⟨_,rfl,M',by rw[qI hlt,qH hlt],hM'⟩) (by
  rintro s ⟨M,rfl,hM⟩
  unfold bU
  simp only
  rw[if_neg (by have:=hN.1;simp;omega)]) (s:=([first],[(first,0)],0,0,[],[])) ⟨_,rfl,MapOf.one first⟩ (m6 (by omega))
 rw[aE e]
 simp only
 rw[List.take_of_length_le (by have:=hN.1;omega)]
end
theorem Ld {l:List Int} {x:Int} (h:l.length<=9223372036854775807):kc l x=some (if x∈l then (l.idxOf x:Int) else -1):=by
 unfold kc
 obtain ⟨o,e,hq⟩:=cM (f:=lu l x) (fun i s=>s=(i:Int)/\x∉l.take i) (fun o=>(x∈l/\o= .ret (l.idxOf x:Int))\/(x∉l/\ ∃s,o= .brk s)) l.length (s:=0) (by
  rintro i s hi ⟨rfl,hx⟩
  unfold lu
  by_cases hl:i<l.length
  ·rw[if_pos (by simp;omega),aG (by omega) (by omega)];simp only[aa]
   by_cases c:nth l (i:Int)=x
   ·refine .inr ⟨_,by rw[if_pos (by simpa using c)],(fun s' e=>by cases e),.inl ?_⟩
    have e:l=l.take i++(x::l.drop (i+1)):=by
     rw[<-c,bN hl,<-List.drop_eq_getElem_cons hl,List.take_append_drop]
    refine ⟨by rw[e];simp,?_⟩
    congr 1
    conv=>rhs;rw[e,List.idxOf_append,if_neg hx,List.idxOf_cons_self]
    simp[aA];first | done | omega
   ·refine .inl ⟨hl,_,by rw[if_neg (by simpa using c)],by rw[aC (by omega)],?_⟩
    rw[take_one hl,List.mem_append,List.mem_singleton]
    rintro (h | h)
    ·exact hx h
    ·exact c h.symm
  ·refine .inr ⟨_,by rw[if_neg (by simp;omega)],(fun s' e=>by cases e),.inr ⟨?_,_,rfl⟩⟩
   rwa [List.take_of_length_le (by omega)] at hx) ⟨rfl,by simp⟩ (m6 h)
 rcases hq with ⟨hx,rfl⟩ | ⟨hx,s,rfl⟩
 ·rw[dx e,if_pos hx]
 ·rw[aE e,if_neg hx]
section
variable {a:AutT} {n:Nat} {c:List Int} {lv:List Bool} {nx:Int->List (Option Int)} {G:Int->Prop} {B:Nat} {acc:Int->Bool}
def good (n:Nat) (lv:List Bool) (r:Int):Prop:=0<=r/\r<n/\nth lv r=true
def lB (a:AutT) (c:List Int) (lv:List Bool) (r:Int):List (Option Int):=(List.range 9).map fun k=>if mv a r k≥0/\nth lv (mv a r k)=true then some (nth c (mv a r k)) else none
theorem CM {r:Int} {k:Nat} (hk:k<9):nth (lB a c lv r) (k:Int)=if mv a r k≥0/\nth lv (mv a r k)=true then some (nth c (mv a r k)) else none:=by
 have:k<(lB a c lv r).length:=by simp[lB];omega
 rw[bN this];simp[lB]
def RepsOf (n:Nat) (lv:List Bool) (c:List Int) (rs l:List Int):Prop:=rs.length=l.length/\ ∀j:Nat,j<l.length->good n lv (nth rs j)/\nth c (nth rs j)=nth l (j:Int)
theorem RepsOf.snoc {rs l:List Int} (h:RepsOf n lv c rs l) {t:Int} (ht:good n lv t):RepsOf n lv c (rs++ [t]) (l++ [nth c t]):=by
 refine ⟨by simp[h.1],fun j hj=>?_⟩
 by_cases e:j<l.length
 ·rw[fO (by omega) (by have:=h.1;omega),fO (by omega) (by omega)];exact h.2 j e
 ·have e:j=l.length:=by simp at hj;omega
  subst e
  have h1:nth (rs++ [t]) (l.length:Int)=t:=by rw[bN (by simp[h.1])];simp[<-h.1]
  have h2:nth (l++ [nth c t]) (l.length:Int)=nth c t:=by rw[bN (by simp)];simp
  rw[h1,h2];exact ⟨ht,rfl⟩
theorem Ha (V:VA a n) (hn:n<=1000000) (hc:c.length=n) (hlv:lv.length=n) {l rs:List Int} {acs:List Bool} {rws:List (List Int)} {i:Nat} (hi:i<l.length) (hR:RepsOf n lv c rs l) {os:List (Option Int)} (hos:os.length=9)
  (ho: ∀r,good n lv r->nth c r=nth l (i:Int)->lB a c lv r=os) (hB: ∀k,(nbS l (os.take k)).length<=1000000) :
  ∃rs',aF (fa a c lv (l,rs,(i:Int),0,acs,rws)) br (l,rs,[],0)=some (.brk (nbS l os,rs',nbR l os,9))/\RepsOf n lv c rs' (nbS l os):=by
 obtain ⟨s',e,rs',rfl,hR'⟩:=jk (f:=fa a c lv (l,rs,(i:Int),0,acs,rws)) (fun k s=> ∃rs',s=(nbS l (os.take k),rs',nbR l (os.take k),(k:Int))/\RepsOf n lv c rs' (nbS l (os.take k))) 9 (by
  rintro k s hk ⟨r1,rfl,hR1⟩
  have hpre:=g9 l (os.take k)
  have hlen:=hpre.length_le
  have hBk:=hB k
  have hrl:(nbR l (os.take k)).length<=9:=by rw[dL,aA];omega
  have hr1:=hR1.1
  obtain ⟨⟨g0,g1,g2⟩,gc⟩:=hR1.2 i (by omega)
  rw[gb hpre (by omega) (by omega)] at gc
  have hsu:=ho _ ⟨g0,g1,g2⟩ gc
  have hok:nth os (k:Int)=if mv a (nth r1 (i:Int)) k≥0/\nth lv (mv a (nth r1 (i:Int)) k)=true then some (nth c (mv a (nth r1 (i:Int)) k)) else none:=by
   rw[<-hsu];exact CM hk
  have hmv:=V.mv (s:=nth r1 (i:Int)) (k:=k) g0 g1 hk
  unfold fa
  simp only
  rw[if_pos (by simp;omega),aG (xs:=r1) (by omega) (by omega)];simp only[aa]
  rw[V.get g0 g1];simp only[aa]
  rw[V.get2 g0 g1 hk,take_one (by omega),oA,oB]
  simp only[aa,aC (show k<9223372036854775807 by omega)]
  by_cases c1:mv a (nth r1 (i:Int)) k≥0
  ·rw[if_pos (by simpa using c1),aG (xs:=lv) c1 (by omega)];simp only[aa]
   by_cases c2:nth lv (mv a (nth r1 (i:Int)) k)=true
   ·rw[if_pos ⟨c1,c2⟩] at hok
    rw[if_pos c2,aG (xs:=c) c1 (by omega),hok];simp only[aa]
    rw[Ld (by omega)];simp only[aa]
    by_cases c3:nth c (mv a (nth r1 (i:Int)) k)∈nbS l (os.take k)
    ·rw[if_pos c3,if_neg (by simp)];simp only[aa]
     rw[aI (by simp;omega)]
     exact ⟨_,rfl,r1,by rw[gQ c3];rfl,by rw[gQ c3];exact hR1⟩
    ·rw[if_neg c3,if_pos (by decide)]
     rw[aI (by simp;omega)];simp only[aa]
     rw[aI (by simp;omega)];simp only[aa]
     rw[aI (by simp;omega)];simp only[aa]
     refine ⟨_,rfl,r1++ [mv a (nth r1 (i:Int)) k],?_,?_⟩
     ·rw[gl c3];simp only[nbI,lZ c3]
     ·rw[gl c3];exact hR1.snoc ⟨c1,hmv.2,c2⟩
   ·rw[if_neg (fun h=>c2 h.2)] at hok
    rw[if_neg c2,hok];simp only[aa]
    rw[aI (by simp;omega)]
    exact ⟨_,rfl,r1,rfl,hR1⟩
  ·rw[if_neg (fun h=>c1 h.1)] at hok
   rw[if_neg (by simpa using c1),hok];simp only[aa]
   rw[aI (by simp;omega)]
   exact ⟨_,rfl,r1,rfl,hR1⟩) (by
  rintro s ⟨r1,rfl,hR1⟩
  unfold fa
  simp) (s:=(l,rs,[],0)) ⟨rs,rfl,hR⟩ (by unfold br;omega)
 rw[List.take_of_length_le (by omega)] at e hR'
 exact ⟨rs',e,hR'⟩
theorem Pn (V:VA a n) (hn:n<=1000000) (hc:c.length=n) (hlv:lv.length=n) (hs:nth lv a.1=true) (H:NumOk nx (nth c a.1) G B) (hB:B<=1000000)
  (hnx: ∀r,good n lv r->nx (nth c r)=lB a c lv r) (hacc: ∀r,good n lv r->acc (nth c r)=nth a.2.1 r) :
  ∃N,bfE nx (nth c a.1) N/\fU a c lv=some (0,(bfS nx (nth c a.1) N).map acc,bfR nx (nth c a.1) N):=by
 obtain ⟨N,hNB,hN⟩:=GP (nx:=nx) (first:=nth c a.1) (H.le)
 refine ⟨N,hN,?_⟩
 have hst:=V.start
 have hlen:=V.len
 unfold fU
 rw[aG hst.1 (by omega)];simp only[aa]
 rw[if_pos hs,aG hst.1 (by omega)];simp only[aa]
 obtain ⟨s',e,rs,rfl,hR⟩:=jk (f:=gG a c lv) (fun i s=> ∃rs,s=(bfS nx (nth c a.1) i,rs,(i:Int),0,((bfS nx (nth c a.1) i).take i).map acc,bfR nx (nth c a.1) i)/\RepsOf n lv c rs (bfS nx (nth c a.1) i)) N (by
  rintro i s hi ⟨rs,rfl,hR⟩
  have hlt:=hN.2 i hi
  have hG:=H.at hlt
  have hle:=H.le i
  have hle':=H.le (i+1)
  obtain ⟨rs',e,hR'⟩:=Ha (acs:=((bfS nx (nth c a.1) i).take i).map acc) (rws:=bfR nx (nth c a.1) i) V hn hc hlv hlt hR (os:=nx (nth (bfS nx (nth c a.1) i) (i:Int))) (H.len _ hG) (fun r hr e=>by rw[<-hnx r hr,e]) (fun k=>by
    have:(nbS (bfS nx (nth c a.1) i) ((nx (nth (bfS nx (nth c a.1) i) (i:Int))).take k)).length<=B:=H.bound _ (lY (jl i)) fun x hx=>by
     rcases mC.1 hx with hx | hx
     ·exact eW H.g0 H.gn i x hx
     ·exact H.gn _ hG x (List.mem_of_mem_take hx)
    omega)
  unfold gG
  simp only
  rw[if_pos (by simp;omega),aE e]
  rw[<-gD hlt] at hR'
  have hl2:=(bI (nx:=nx) (first:=nth c a.1) i).length_le
  have hr1:=hR'.1
  obtain ⟨⟨g0,g1,g2⟩,gc⟩:=hR'.2 i (by omega)
  rw[gb (bI i) (by omega) (by omega)] at gc
  rw[aG (xs:=rs') (by omega) (by omega)];simp only[aa]
  rw[V.acc g0 g1,<-hacc _ ⟨g0,g1,g2⟩,gc];simp only[aa]
  have hr:(bfR nx (nth c a.1) i).length=i:=ga fun j hj=>hN.2 j (by omega)
  rw[aI (by simp;omega)];simp only[aa]
  rw[aI (by simp;omega)];simp only[aa,aC (show i<9223372036854775807 by omega)]
  exact ⟨_,rfl,rs',by rw[<-gD hlt,qI hlt,qH hlt],hR'⟩) (by
  rintro s ⟨rs,rfl,hR⟩
  unfold gG
  simp only
  rw[if_neg (by have:=hN.1;simp;omega)]) (s:=([nth c a.1],[a.1],0,0,[],[])) ⟨[a.1],rfl,rfl,fun j hj=>by
   obtain rfl:j=0:=by simpa [bfS] using hj
   exact ⟨⟨hst.1,hst.2,hs⟩,rfl⟩⟩ (m6 (by omega))
 rw[aE e]
 simp only
 rw[List.take_of_length_le (by have:=hN.1;omega)]
theorem By (V:VA a n) (hlv:lv.length=n) (hs:nth lv a.1=false):fU a c lv=some nothing:=by
 have hst:=V.start
 unfold fU
 rw[aG hst.1 (by omega)];simp only[aa]
 rw[hs,G7];rfl
end
end D
namespace D
open Go.RowKit
abbrev wL:=(List Int)×Int×Int×(List Int)×Bool
abbrev JU (x:Int) (j:Nat):Bool:=(pB (m7 x (j:Int)) 1)==1
def JV (F:List Int) (set m0:Int):Nat->Int
 | 0=>m0
 | i+1=>if JU set (i+1) then orI (JV F set m0 i) (nth F (i:Int)) else JV F set m0 i
def pick (L:List Int) (m letter:Int):Nat->Int
 | 0=>0
 | i+1=>if nth L (i:Int)=letter/\JU m i=true then orI (pick L m letter i) (An 1 ((i+1:Nat):Int)) else pick L m letter i
def aft (p:wL) (set letter:Int):Int:=pick p.1 (JV p.2.2.2.1 set (if (pB set 1)==1 then p.2.1 else 0) p.2.2.2.1.length) letter p.1.length
def mF (p:wL) (set:Int):Bool:=if (pB set 1)==1 then (if p.2.2.2.2 then true else (pB (m7 set 1) p.2.2.1) !=0) else (pB (m7 set 1) p.2.2.1) !=0
theorem nQ (i:Nat):chk (0<=(i:Int))=some ():=by unfold chk;rw[if_pos (by omega)]
theorem NF {p:wL} {set letter:Int} (hl:p.2.2.2.1.length=p.1.length) (hb:p.1.length<=1000000):kQ p set letter=some (aft p set letter):=by
 have h0: ∀m0,aF (fH p set) br (m0,0)=some (.brk (JV p.2.2.2.1 set m0 p.1.length,(p.1.length:Int))):=fun m0 =>
  bg (f:=fH p set) (fun i=>(JV p.2.2.2.1 set m0 i,(i:Int))) p.1.length (fun i hi=>by
   unfold fH
   simp only
   rw[if_pos (by simp;omega),aC (by omega),nQ];simp only[aa]
   rw[JV]
   by_cases c:JU set (i+1)=true
   ·rw[if_pos c,if_pos c,aG (by omega) (by omega)];rfl
   ·rw[if_neg c,if_neg c];rfl) (by unfold fH;simp) (m6 (by omega))
 have h1: ∀s7:Int×Int,aF (fI p letter s7) br (0,0)=some (.brk (pick p.1 s7.1 letter p.1.length,(p.1.length:Int))):=fun s7 =>
  bg (f:=fI p letter s7) (fun i=>(pick p.1 s7.1 letter i,(i:Int))) p.1.length (fun i hi=>by
   unfold fI
   simp only
   rw[if_pos (by simp;omega),aC (by omega),nQ,nQ];simp only[aa]
   rw[pick]
   by_cases c:JU s7.1 i=true
   ·rw[if_pos c,aG (by omega) (by omega)];simp only[aa]
    by_cases d:nth p.1 (i:Int)=letter
    ·rw[if_pos (by simpa using d),if_pos ⟨d,c⟩];rfl
    ·rw[if_neg (by simpa using d),if_neg (fun h=>d h.1)];rfl
   ·rw[if_neg c,if_neg (fun h=>c h.2)];rfl) (by unfold fI;simp) (m6 (by omega))
 unfold kQ aft
 rw[hl]
 by_cases c:((pB set 1)==1)=true
 ·rw[if_pos c,if_pos c];simp only[aa]
  rw[aE (h0 _),aE (h1 _)]
 ·rw[if_neg c,if_neg c];simp only[aa]
  rw[aE (h0 _),aE (h1 _)]
theorem NG {p:wL} {set letter:Int} (hl:p.2.2.2.1.length=p.1.length) (hb:p.1.length<=1000000):eR p set letter=some (aft p set letter):=by
 have h0: ∀m0,aF (cA p set) br (m0,0)=some (.brk (JV p.2.2.2.1 set m0 p.2.2.2.1.length,(p.2.2.2.1.length:Int))):=fun m0 =>
  bg (f:=cA p set) (fun i=>(JV p.2.2.2.1 set m0 i,(i:Int))) p.2.2.2.1.length (fun i hi=>by
   unfold cA
   simp only
   rw[if_pos (by simp;omega),aG (by omega) (by omega)];simp only[aa]
   rw[aC (by omega),nQ];simp only[aa]
   rw[JV]
   by_cases c:JU set (i+1)=true
   ·rw[if_pos c,if_pos c];rfl
   ·rw[if_neg c,if_neg c];rfl) (by unfold cA;simp) (m6 (by omega))
 have h1: ∀s7:Int×Int,aF (cB p letter s7) br (0,0)=some (.brk (pick p.1 s7.1 letter p.1.length,(p.1.length:Int))):=fun s7 =>
  bg (f:=cB p letter s7) (fun i=>(pick p.1 s7.1 letter i,(i:Int))) p.1.length (fun i hi=>by
   unfold cB
   simp only
   rw[if_pos (by simp;omega),aG (by omega) (by omega)];simp only[aa]
   rw[aC (by omega),nQ,nQ];simp only[aa]
   rw[pick]
   by_cases d:nth p.1 (i:Int)=letter
   ·rw[if_pos (by simpa using d)]
    by_cases c:JU s7.1 i=true
    ·rw[if_pos c,if_pos ⟨d,c⟩];rfl
    ·rw[if_neg c,if_neg (fun h=>c h.2)];rfl
   ·rw[if_neg (by simpa using d),if_neg (fun h=>d h.1)];rfl) (by unfold cB;simp) (m6 (by omega))
 unfold eR aft
 by_cases c:((pB set 1)==1)=true
 ·rw[if_pos c,if_pos c];simp only[aa]
  rw[aE (h0 _),aE (h1 _)]
 ·rw[if_neg c,if_neg c];simp only[aa]
  rw[aE (h0 _),aE (h1 _)]
theorem Po (p:wL) (x:Int):iT p x=some (mF p x):=by
 unfold iT mF
 split <;> (try split) <;> rfl
theorem Pp (p:wL) (x:Int):cR p x=some (mF p x):=by
 unfold cR mF
 split <;> (try split) <;> rfl
theorem DY (x:Int): -9223372036854775808<=IntKind.i64.wrap x/\IntKind.i64.wrap x<=9223372036854775807:=by
 simp only[IntKind.wrap,IntKind.bits,IntKind.signed,Bool.true_and]
 split <;> rename_i h <;> simp at h <;> omega
theorem NH (x:Int):iOk (IntKind.i64.wrap x)=true:=by
 have h1:IntKind.i64.min= -9223372036854775808:=by decide
 have h2:IntKind.i64.max=9223372036854775807:=by decide
 have h3:=DY x
 simp only[iOk,Lit.wf,h1,h2,af,decide_eq_true_eq]
 omega
theorem Pq (m n:Int):iOk (orI m n)=true:=NH _
theorem Hb (L:List Int) (m letter:Int): ∀i,iOk (pick L m letter i)=true
 | 0=>by unfold pick;decide
 | i+1=>by
  rw[pick]
  split
  ·exact Pq _ _
  ·exact Hb L m letter i
def nxS (p:wL) (x:Int):List (Option Int):=(List.range 9).map fun k:Nat=>if aft p x (k:Int)=0 then none else some (aft p x (k:Int))
theorem Le {p:wL} {x:Int} {k:Nat} (hk:k<9):nth (nxS p x) (k:Int)=if aft p x k=0 then none else some (aft p x k):=by
 have:k<(nxS p x).length:=by simp[nxS];omega
 rw[bN this];simp[nxS]
theorem rE (p:wL) (x:Int):(nxS p x).length=9:=by simp[nxS]
theorem Ps {p:wL} {x y:Int} (h:some y∈nxS p x):iOk y=true:=by
 obtain ⟨k,hk,e⟩:=List.mem_map.1 h
 split at e
 ·cases e
 ·obtain rfl:=ae e
  exact Hb _ _ _ _
theorem Hc {κ:Type} [DecidableEq κ] : ∀(l:List κ) (os:List (Option κ)),(nbS l os).length<=l.length+os.length
 | l,[] =>by simp[nbS]
 | l,o::os=>by
  have h:=Hc (nbL l o) os
  have h2:(nbL l o).length<=l.length+1:=by
   cases o with
   | none=>simp[nbL]
   | some x=>unfold nbL;simp only;split <;> simp
  show (nbS (nbL l o) os).length<=_
  simp only[au];omega
section
variable {κ:Type} [DecidableEq κ] (nx:κ->List (Option κ)) (first:κ) (acc:κ->Bool) (most:Nat)
def goM:Nat->Nat->AutT×Bool
 | 0,i=>((0,[],[]),false)
 | f+1,i=>if i<(bfS nx first i).length then (if (bfS nx first (i+1)).length>most then ((0,[],[]),false) else goM f (i+1)) else ((0,((bfS nx first i).take i).map acc,bfR nx first i),true)
end
section
variable {κ:Type} [DecidableEq κ] {nx:κ->List (Option κ)} {first:κ} {acc:κ->Bool} {most:Nat}
theorem ye {i:Nat} (h: ∀j,j<i->j<(bfS nx first j).length):i<=(bfS nx first i).length:=by
 cases i with
 | zero=>omega
 | succ i =>
  have h1:=h i (by omega)
  have h2:=(bI (nx:=nx) (first:=first) i).length_le
  omega
theorem CN {S:Type} {f:S->Option (Out (AutT×Bool) S)} (hm:most<=1000000) (h1:1<=most) (st:Nat->S->Prop)
  (hs: ∀i s,st i s->(∀j,j<i->j<(bfS nx first j).length)->(bfS nx first i).length<=most->i<(bfS nx first i).length->((bfS nx first (i+1)).length>most->f s=some (.ret ((0,[],[]),false)))/\((bfS nx first (i+1)).length<=most-> ∃s',f s=some (.nxt s')/\st (i+1) s'))
  (he: ∀i s,st i s-> ¬i<(bfS nx first i).length->f s=some (.brk s)) {s:S} (h0:st 0 s) :
  (aF f br s=some (.ret ((0,[],[]),false))/\goM nx first acc most (most+2) 0=((0,[],[]),false)) \/
  ∃N s',aF f br s=some (.brk s')/\st N s'/\bfE nx first N/\N<=most/\goM nx first acc most (most+2) 0=((0,(bfS nx first N).map acc,bfR nx first N),true):=by
 obtain ⟨o,e,hq⟩:=cM (f:=f) (fun i s=>st i s/\(∀j,j<i->j<(bfS nx first j).length)/\(bfS nx first i).length<=most/\goM nx first acc most (most+2) 0=goM nx first acc most (most+2 - i) i)
  (fun o=>(o= .ret ((0,[],[]),false)/\goM nx first acc most (most+2) 0=((0,[],[]),false))\/ ∃N s',o= .brk s'/\st N s'/\bfE nx first N/\N<=most/\goM nx first acc most (most+2) 0=((0,(bfS nx first N).map acc,bfR nx first N),true)) most (s:=s) (by
  rintro i s hi ⟨k1,k2,k3,k4⟩
  have hle:=ye k2
  rw[show most+2 - i=(most+1 - i)+1 from by omega] at k4
  have k5:goM nx first acc most (most+1 - i+1) i=if i<(bfS nx first i).length then (if (bfS nx first (i+1)).length>most then ((0,[],[]),false) else goM nx first acc most (most+1 - i) (i+1)) else ((0,((bfS nx first i).take i).map acc,bfR nx first i),true):=rfl
  rw[k5] at k4
  by_cases c:i<(bfS nx first i).length
  ·rw[if_pos c] at k4
   obtain ⟨q1,q2⟩:=hs i s k1 k2 k3 c
   by_cases d:(bfS nx first (i+1)).length>most
   ·rw[if_pos d] at k4
    exact .inr ⟨_,q1 d,(fun s' e=>by cases e),.inl ⟨rfl,k4⟩⟩
   ·rw[if_neg d] at k4
    obtain ⟨s',e,hs'⟩:=q2 (by omega)
    exact .inl ⟨by omega,s',e,hs',fun j hj=>(by
     by_cases ej:j=i
     ·subst ej;exact c
     ·exact k2 j (by omega)),by omega,by rw[k4];congr 1;omega⟩
  ·rw[if_neg c] at k4
   refine .inr ⟨_,he i s k1 c,(fun s' e=>by cases e),.inr ⟨i,s,rfl,k1,⟨by omega,k2⟩,hi,?_⟩⟩
   rw[k4,List.take_of_length_le (by omega)]) ⟨h0,fun j hj=>by omega,by simp[bfS];omega,rfl⟩ (m6 (by omega))
 rcases hq with ⟨rfl,h⟩ | ⟨N,s',rfl,h⟩
 ·exact .inl ⟨e,h⟩
 ·exact .inr ⟨N,s',e,h⟩
end
section
variable {p:wL} {most:Nat} (hl:p.2.2.2.1.length=p.1.length) (hb:p.1.length<=1000000) (hm:most<=900000) (h1:1<=most)
include hl hb hm h1
theorem QM:fJ p most=some (goM (nxS p) 1 (mF p) most (most+2) 0):=by
 have hp3: ∀(l:List Int) (i k:Nat),k<9-> ∃j,(fun a0 a1=>cF a0 a1 (p.1,p.2.1,p.2.2.1,p.2.2.2.1,p.2.2.2.2)) (nth l (i:Int)) (k:Int)=some (match nth (nxS p (nth l (i:Int))) (k:Int) with | some y=>(y,true) | none=>(j,false)):=by
  intro l i k hk
  refine ⟨0,?_⟩
  show cF _ _ p=_
  unfold cF
  simp only[jj]
  rw[NG hl hb,Le hk];simp only[aa]
  by_cases c:aft p (nth l (i:Int)) k=0
  ·rw[if_pos c];simp[c]
  ·rw[if_neg c];simp[c]
 unfold fJ dK
 rw[show Et ([] :List (Int×Int)) iOk iOk 1 0=some [(1,0)] from by unfold Et;rw[if_pos ⟨by simp,by decide,by decide⟩]];simp only[aa]
 rcases CN (nx:=nxS p) (first:=1) (acc:=mF p) (most:=most) (f:=bU most (fun a0=>cR (p.1,p.2.1,p.2.2.1,p.2.2.2.1,p.2.2.2.2) a0) (fun a0 a1=>cF a0 a1 (p.1,p.2.1,p.2.2.1,p.2.2.2.1,p.2.2.2.2)))
  (by omega) h1 (fun i s=> ∃M,s=(bfS (nxS p) 1 i,M,(i:Int),0,((bfS (nxS p) 1 i).take i).map (mF p),bfR (nxS p) 1 i)/\MapOf M (bfS (nxS p) 1 i)) (by
   rintro i s ⟨M,rfl,hM⟩ hj hle hlt
   have hil:=ye hj
   obtain ⟨M',e,hM'⟩:=Aa (p3:=fun a0 a1=>cF a0 a1 (p.1,p.2.1,p.2.2.1,p.2.2.2.1,p.2.2.2.2)) (l:=bfS (nxS p) 1 i) (M:=M) (os:=nxS p (nth (bfS (nxS p) 1 i) (i:Int))) (acs:=((bfS (nxS p) 1 i).take i).map (mF p)) (rws:=bfR (nxS p) 1 i) hlt (rE _ _) hM (fun y hy=>Ps hy)
    (fun k=>by
     have:=Hc (bfS (nxS p) 1 i) ((nxS p (nth (bfS (nxS p) 1 i) (i:Int))).take k)
     have h9:=rE p (nth (bfS (nxS p) 1 i) (i:Int))
     rw[aA] at this
     omega) (fun k hk=>hp3 _ i k hk)
   rw[<-gD hlt] at hM'
   have hl2:=(bI (nx:=nxS p) (first:=1) i).length_le
   constructor
   ·intro hgt
    unfold bU
    simp only
    rw[if_pos (by simp;omega),aE e,<-gD hlt]
    simp only
    rw[if_pos (by simp;omega)]
   ·intro hle2
    unfold bU
    simp only
    rw[if_pos (by simp;omega),aE e,<-gD hlt]
    simp only
    rw[if_neg (by simp;omega),aG (by omega) (by omega)];simp only[aa]
    rw[gb (bI i) (by omega) (by omega)]
    simp only[jj]
    rw[Pp];simp only[aa]
    have hr:(bfR (nxS p) 1 i).length=i:=ga hj
    rw[aI (by simp;omega)];simp only[aa]
    rw[aI (by simp;omega)];simp only[aa,aC (show i<9223372036854775807 by omega)]
    exact ⟨_,rfl,M',by rw[qI hlt,qH hlt],hM'⟩) (by
   rintro i s ⟨M,rfl,hM⟩ hn
   unfold bU
   simp only
   rw[if_neg (by simp;omega)]) (s:=([1],[(1,0)],0,0,[],[])) ⟨_,rfl,MapOf.one 1⟩ with ⟨e,hg⟩ | ⟨N,s',e,⟨M,rfl,hM⟩,hN,hNm,hg⟩
 ·rw[dx e,hg];rfl
 ·rw[aE e,hg];simp only[aa]
  rw[List.take_of_length_le (by have:=hN.1;omega)]
theorem JW {l:List Int} {acs:List Bool} {rws:List (List Int)} {i:Nat} (hi:i<l.length) (hle:l.length<=most) :
  aF (eu p (l,(i:Int),0,acs,rws)) br (l,[],0)=some (.brk (nbS l (nxS p (nth l (i:Int))),nbR l (nxS p (nth l (i:Int))),9)):=by
 have h9:=rE p (nth l (i:Int))
 have:=bg (f:=eu p (l,(i:Int),0,acs,rws)) (fun k=>(nbS l ((nxS p (nth l (i:Int))).take k),nbR l ((nxS p (nth l (i:Int))).take k),(k:Int))) 9 (fun k hk=>by
  have hpre:=g9 l ((nxS p (nth l (i:Int))).take k)
  have hlen:=hpre.length_le
  have hB:=Hc l ((nxS p (nth l (i:Int))).take k)
  rw[aA] at hB
  have hrl:(nbR l ((nxS p (nth l (i:Int))).take k)).length<=9:=by rw[dL,aA];omega
  unfold eu
  simp only[jj]
  rw[if_pos (by simp;omega),aG (by omega) (by omega)];simp only[aa]
  rw[gb hpre (by omega) (by omega),NF hl hb];simp only[aa]
  rw[take_one (by omega),oA,oB,Le hk]
  simp only[aC (show k<9223372036854775807 by omega)]
  by_cases c:aft p (nth l (i:Int)) k=0
  ·rw[if_pos c,if_neg (by simp[c])];simp only[aa]
   rw[aI (by simp;omega)];rfl
  ·rw[if_neg c,if_pos (by simpa using c),Ld (by omega)];simp only[aa]
   by_cases d:aft p (nth l (i:Int)) k∈nbS l ((nxS p (nth l (i:Int))).take k)
   ·rw[if_pos d,if_neg (by simp),gQ d];simp only[aa]
    rw[aI (by simp;omega)];rfl
   ·rw[if_neg d,if_pos (by decide),aI (by simp;omega),gl d];simp only[aa]
    rw[aI (by simp;omega)];simp only[nbI,lZ d,aa]) (by
  unfold eu
  simp) (by unfold br;omega)
 have e9:(nxS p (nth l (i:Int))).take 9=nxS p (nth l (i:Int)):=List.take_of_length_le (by omega)
 rw[e9] at this
 exact this
theorem NI:cq p most=some (goM (nxS p) 1 (mF p) most (most+2) 0):=by
 unfold cq
 rcases CN (nx:=nxS p) (first:=1) (acc:=mF p) (most:=most) (f:=ew p most)
  (by omega) h1 (fun i s=>s=(bfS (nxS p) 1 i,(i:Int),0,((bfS (nxS p) 1 i).take i).map (mF p),bfR (nxS p) 1 i)) (by
   rintro i s rfl hj hle hlt
   have hil:=ye hj
   have e:=JW hl hb hm h1 (acs:=((bfS (nxS p) 1 i).take i).map (mF p)) (rws:=bfR (nxS p) 1 i) hlt hle
   have hl2:=(bI (nx:=nxS p) (first:=1) i).length_le
   constructor
   ·intro hgt
    unfold ew
    simp only
    rw[if_pos (by simp;omega),aE e,<-gD hlt]
    simp only
    rw[if_pos (by simp;omega)]
   ·intro hle2
    unfold ew
    simp only
    rw[if_pos (by simp;omega),aE e,<-gD hlt]
    simp only
    rw[if_neg (by simp;omega),aG (by omega) (by omega)];simp only[aa]
    rw[gb (bI i) (by omega) (by omega)]
    simp only[jj]
    rw[Po];simp only[aa]
    have hr:(bfR (nxS p) 1 i).length=i:=ga hj
    rw[aI (by simp;omega)];simp only[aa]
    rw[aI (by simp;omega)];simp only[aa,aC (show i<9223372036854775807 by omega)]
    exact ⟨_,rfl,by rw[qI hlt,qH hlt]⟩) (by
   rintro i s rfl hn
   unfold ew
   simp only
   rw[if_neg (by simp;omega)]) (s:=([1],0,0,[],[])) rfl with ⟨e,hg⟩ | ⟨N,s',e,rfl,hN,hNm,hg⟩
 ·rw[dx e,hg]
 ·rw[aE e,hg];simp only
  rw[List.take_of_length_le (by have:=hN.1;omega)]
end
end D
namespace D
open Go.RowKit
theorem JX (m n:Int):orI m n=orI n m:=by unfold orI;rw[BitVec.or_comm]
def lk (F:List Int) (from_ to_:Int):Nat->List Int
 | 0=>F
 | i+1=>if JU from_ i then (lk F from_ to_ i).set i (orI (nth (lk F from_ to_ i) (i:Int)) to_) else lk F from_ to_ i
theorem qJ (F:List Int) (f t:Int): ∀i,(lk F f t i).length=F.length
 | 0=>rfl
 | i+1=>by
  rw[lk]
  split
  ·rw[List.length_set,qJ]
  ·exact qJ F f t i
theorem CO {p:wL} {f t:Int} (hl:p.2.2.2.1.length<=1000000):ka p f t=some (p.1,p.2.1,p.2.2.1,lk p.2.2.2.1 f t p.2.2.2.1.length,p.2.2.2.2):=by
 have hL:aF (gu f t) br (0,p.2.2.2.1)=some (.brk ((p.2.2.2.1.length:Int),lk p.2.2.2.1 f t p.2.2.2.1.length)):=bg (f:=gu f t) (fun i=>((i:Int),lk p.2.2.2.1 f t i)) p.2.2.2.1.length (fun i hi=>by
  have hk:=qJ p.2.2.2.1 f t i
  unfold gu
  simp only
  rw[if_pos (by simp;omega),nQ];simp only[aa]
  rw[lk,aC (by omega)]
  by_cases c:JU f i=true
  ·rw[if_pos c,if_pos c,aG (by omega) (by omega)];simp only[aa,Int.toNat_natCast]
  ·rw[if_neg c,if_neg c];rfl) (by unfold gu;simp[qJ]) (m6 (by omega))
 unfold ka
 rw[aE hL]
theorem CP {p:wL} {f t:Int} (hl:p.2.2.2.1.length<=1000000):c7 p f t=some (p.1,p.2.1,p.2.2.1,lk p.2.2.2.1 f t p.2.2.2.1.length,p.2.2.2.2):=by
 have hL:aF (cv p f t) br (0,p.2.2.2.1)=some (.brk ((p.2.2.2.1.length:Int),lk p.2.2.2.1 f t p.2.2.2.1.length)):=bg (f:=cv p f t) (fun i=>((i:Int),lk p.2.2.2.1 f t i)) p.2.2.2.1.length (fun i hi=>by
  have hk:=qJ p.2.2.2.1 f t i
  unfold cv
  simp only
  rw[if_pos (by simp;omega),nQ];simp only[aa]
  rw[lk,aC (by omega)]
  by_cases c:JU f i=true
  ·rw[if_pos c,if_pos c,aG (by omega) (by omega)];simp only[aa,Int.toNat_natCast]
  ·rw[if_neg c,if_neg c];rfl) (by unfold cv;simp) (m6 (by omega))
 unfold c7
 rw[aE hL]
def BOk (x:Tr Tok):Prop:= ∀(n m:Nat) (p:wL),(flat x).length<=n->(flat x).length<=m->p.2.2.2.1.length=p.1.length->p.1.length+(flat x).length<=100000->
 ∃(nu:Bool) (fi la:Int) (q:wL),bT n p (flat x)=some ((nu,fi,la),q)/\bq m p x=some ((fi,la,nu),q)/\q.2.2.2.1.length=q.1.length/\q.1.length<=p.1.length+(flat x).length
theorem JY {x:Tr Tok} (h:WT x):BOk x:=by
 refine WT.ind (p:=BOk) ?_ ?_ ?_ h
 ·intro t e n m p hn hm hF hl
  rw[uU] at hn hm hl⊢
  simp only[au,ay] at hl
  match n,m,hn,hm with
  | n+1,m+1,_,_ =>
   rw[bT,bq];simp only[l6,aa]
   have:=(gJ (A:=[]) (t:=t) (by simp)).1
   rw[List.nil_append] at this
   rw[this];simp only[aa,jj]
   rcases iQ (show 0<=ar t by omega) with ⟨k,_⟩ | ⟨k,_⟩ | ⟨_,k⟩
   ·omega
   ·omega
   rcases k with k | k | k
   ·exact ⟨false,0,0,p,by simp[k],by simp[k],hF,by simp⟩
   ·exact ⟨true,0,0,p,by simp[k],by simp[k],hF,by simp⟩
   ·refine ⟨false,An 1 (p.1.length:Int),An 1 (p.1.length:Int),(p.1++ [t.2.1],p.2.1,p.2.2.1,p.2.2.2.1++ [0],p.2.2.2.2),?_,?_,by simp[hF],by simp⟩
    ·rw[if_neg (by simp[k]),if_pos (by simp[k]),aI (by simp;omega)];simp only[aa]
     rw[aI (by simp;omega)];rfl
    ·rw[if_neg (by simp[k]),if_pos (by simp[k]),aI (by simp;omega)];simp only[aa]
     rw[aI (by simp;omega)];rfl
 ·intro t a e wa ih n m p hn hm hF hl
  rw[vN] at hn hm hl⊢
  simp only[ah,au,ay] at hn hm hl
  match n,m,hn,hm with
  | n+1,m+1,hn,hm =>
   rw[bT,bq];simp only[l6,aa,jj]
   obtain ⟨l1,l2⟩:=gJ (A:=flat a) (t:=t) (by omega)
   rw[l1];simp only[aa]
   obtain ⟨nu,fi,la,q,hs,hi,hq1,hq2⟩:=ih n m p (by omega) (by omega) hF (by omega)
   rcases GU e with ⟨k1,k2⟩ | ⟨k1,k2,k3⟩
   ·have g2:(t.1==2)=false:=by simp[k2]
    have g3:(t.1==3)=false:=by simp[k2]
    have g4:(t.1==4)=false:=by simp[k2]
    have g5:(t.1==5)=false:=by simp[k2]
    simp only[g2,g3,g4,g5,k1,Bool.false_eq_true,if_false,if_true]
    rw[l2,Int.toNat_natCast,List.take_left,chk_of (by simp only[ah,au,ay];omega)];simp only[aa]
    rw[hs,show bj [a] 0=some a from rfl];simp only[aa]
    rw[hi];simp only[aa,jj]
    rw[CO (by omega),CP (by omega)];simp only[aa]
    refine ⟨true,fi,la,_,rfl,rfl,?_,?_⟩
    ·simp only[qJ];exact hq1
    ·simp only[ah,au,ay];omega
   ·have g2:(t.1==2)=false:=by simp[k3]
    have g3:(t.1==3)=false:=by simp[k3]
    have g4:(t.1==4)=false:=by simp[k3]
    have g5:(t.1==5)=false:=by simp[k3]
    simp only[g2,g3,g4,g5,k1,Bool.false_eq_true,if_false]
    exact ⟨false,0,0,p,rfl,rfl,hF,by omega⟩
 ·intro t a b e wa wb iha ihb n m p hn hm hF hl
  rw[oL] at hn hm hl⊢
  have hl2:((flat a++flat b)++ [t]).length<=1000000:=by omega
  obtain ⟨p1,p2,p3,p4⟩:=qF (a:=a) (t:=t) wb hl2
  simp only[ah,au,ay] at hn hm hl
  match n,m,hn,hm with
  | n+1,m+1,hn,hm =>
   have hpa:=wa.pos
   have hpb:=wb.pos
   rw[bT,bq];simp only[l6,aa,jj]
   obtain ⟨l1,l2⟩:=gJ (A:=flat a++flat b) (t:=t) (by rw[ah];omega)
   rw[l1];simp only[aa]
   obtain ⟨nu,fi,la,q,hs,hi,hq1,hq2⟩:=iha n m p (by omega) (by omega) hF (by omega)
   obtain ⟨nu2,fi2,la2,q2,hs2,hi2,hq3,hq4⟩:=ihb n m q (by omega) (by omega) hq1 (by omega)
   have c1: ∀r:Int,0<=r->r<=((flat a++flat b++ [t]).length:Int)->chk (0<=r/\r<=((flat a++flat b++ [t]).length:Int))=some ():=fun r h1 h2=>chk_of ⟨h1,h2⟩
   have g0:bj [a,b] 0=some a:=rfl
   have g1:bj [a,b] 1=some b:=rfl
   rcases iQ (show 0<=ar t by omega) with ⟨_,k⟩ | ⟨k,_⟩ | ⟨k,_⟩
   ·rcases k with k | k
    ·have g2:(t.1==2)=false:=by simp[k]
     have g3:(t.1==3)=false:=by simp[k]
     have g4:(t.1==4)=true:=by simp[k]
     have g5:(t.1==5)=false:=by simp[k]
     simp only[g2,g3,g4,g5,Bool.false_eq_true,if_false,if_true]
     rw[l2,p1,p2,chk_of (by simp only[ah,au,ay];omega)];simp only[aa]
     rw[chk_of (by simp only[ah,au,ay];omega),p3,p4,hs,g0,g1];simp only[aa]
     rw[hi,chk_of (by simp only[ah,au,ay];omega)];simp only[aa,jj]
     rw[hs2,hi2];simp only[aa,jj]
     rw[CO (by omega),CP (by omega)];simp only[aa]
     refine ⟨nu&&nu2,if nu then orI fi fi2 else fi,if nu2 then orI la la2 else la2,(q2.1,q2.2.1,q2.2.2.1,lk q2.2.2.2.1 la fi2 q2.2.2.2.1.length,q2.2.2.2.2),?_,?_,?_,?_⟩
     ·cases nu <;> cases nu2 <;> rfl
     ·rw[JX la la2]
      cases nu <;> cases nu2 <;> rfl
     ·simp only[qJ];exact hq3
     ·simp only[ah,au,ay];omega
    ·have g2:(t.1==2)=false:=by simp[k]
     have g3:(t.1==3)=false:=by simp[k]
     have g4:(t.1==4)=false:=by simp[k]
     have g5:(t.1==5)=true:=by simp[k]
     simp only[g2,g3,g4,g5,Bool.false_eq_true,if_false,if_true]
     rw[l2,p1,p2,chk_of (by simp only[ah,au,ay];omega)];simp only[aa]
     rw[chk_of (by simp only[ah,au,ay];omega),p3,p4,hs,g0,g1];simp only[aa]
     rw[hi,chk_of (by simp only[ah,au,ay];omega)];simp only[aa,jj]
     rw[hs2,hi2];simp only[aa,jj]
     refine ⟨nu || nu2,orI fi fi2,orI la la2,q2,?_,?_,hq3,?_⟩
     ·cases nu <;> simp
     ·cases nu <;> simp
     ·simp only[ah,au,ay];omega
   ·omega
   ·omega
def yo (e:List Tok):Nat->Nat
 | 0=>0
 | i+1=>if (nth e (i:Int)).1=3 then yo e i+1 else yo e i
theorem Bz (e:List Tok): ∀i,yo e i<=i
 | 0=>aB _
 | i+1=>by
  have:=Bz e i
  rw[yo];split <;> omega
theorem Pt {r:List Tok×Bool} (hl:r.1.length<=1000000):aF (cO r) br (0,0)=some (.brk ((yo r.1 r.1.length:Int),(r.1.length:Int))):=
 bg (f:=cO r) (fun i=>((yo r.1 i:Int),(i:Int))) r.1.length (fun i hi=>by
  have:=Bz r.1 i
  unfold cO
  simp only
  rw[if_pos (by simp;omega),aG (by omega) (by omega)];simp only[aa]
  rw[yo,aC (show i<9223372036854775807 by omega),aC (show yo r.1 i<9223372036854775807 by omega)]
  by_cases c:(nth r.1 (i:Int)).1=3
  ·rw[if_pos (by simpa using c),if_pos c];rfl
  ·rw[if_neg (by simpa using c),if_neg c];rfl) (by unfold cO;simp) (m6 (by omega))
theorem QN {r:List Tok×Bool} (hl:r.1.length<=1000000):aF (cQ r) br (0,0)=some (.brk ((yo r.1 r.1.length:Int),(r.1.length:Int))):=
 bg (f:=cQ r) (fun i=>((yo r.1 i:Int),(i:Int))) r.1.length (fun i hi=>by
  have:=Bz r.1 i
  unfold cQ
  simp only
  rw[if_pos (by simp;omega),aG (by omega) (by omega)];simp only[aa]
  rw[yo,aC (show i<9223372036854775807 by omega),aC (show yo r.1 i<9223372036854775807 by omega)]
  by_cases c:(nth r.1 (i:Int)).1=3
  ·rw[if_pos (by simpa using c),if_pos c];rfl
  ·rw[if_neg (by simpa using c),if_neg c];rfl) (by unfold cQ;simp) (m6 (by omega))
theorem kG {e:List Tok} (he:e.length<=1048576): ∃r:wL×Bool,ct e=some r/\fq e=some r/\r.1.2.2.2.1.length=r.1.1.length/\r.1.1.length<=100000:=by
 have hF:=kE
 obtain ⟨e1,e2⟩:=Bw he
 unfold ct fq
 rw[e1,e2];simp only[aa]
 by_cases c:(vp e).2=true
 ·obtain ⟨y,wy,ey,ly⟩:=GY c
  rw[if_pos c,if_pos c,aE (Pt (by rw[ey];omega)),aE (QN (by rw[ey];omega))]
  simp only
  by_cases d:(yo (vp e).1 (vp e).1.length:Int)>20
  ·have d':decide ((yo (vp e).1 (vp e).1.length:Int)>20)=true:=decide_eq_true d
   simp only[d',if_true]
   exact ⟨_,rfl,rfl,rfl,by simp⟩
  ·have d':decide ((yo (vp e).1 (vp e).1.length:Int)>20)=false:=decide_eq_false d
   simp only[d',Bool.false_eq_true,if_false]
   rw[ey,ya (by omega),oD wy];simp only[aa]
   obtain ⟨nu,fi,la,q,hs,hi,hq1,hq2⟩:=JY wy dE dE ([],0,0,[],false) (by omega) (by omega) rfl (by simp;omega)
   rw[hs,hi];simp only[aa]
   exact ⟨_,rfl,rfl,hq1,by simp at hq2;show q.1.length<=_;omega⟩
 ·rw[if_neg c,if_neg c]
  exact ⟨_,rfl,rfl,rfl,by simp⟩
end D
namespace D
open Go.RowKit
theorem DZ (n:Nat) (l:List Int) (hd:l.Nodup) (h: ∀x∈l,0<=x/\x<n):l.length<=n:=by
 have:=hd.length_le_of_subset (l₂:=(List.range n).map Int.ofNat) (fun x hx=>by
  obtain ⟨h0,h1⟩:=h x hx
  exact List.mem_map.2 ⟨x.toNat,List.mem_range.2 (by omega),by show ((x.toNat:Nat):Int)=x;omega⟩)
 simpa using this
theorem Pu {n:Nat} {x:Int} (hn:n<=1000000) (h0:0<=x) (h1:x<n):iOk x=true:=by
 have:=G9 (n:=x.toNat) (by omega)
 rwa [show ((x.toNat:Nat):Int)=x from by omega] at this
theorem Pv {κ:Type} [DecidableEq κ] {nx:κ->List (Option κ)} {first:κ} {G:κ->Prop} {B N:Nat} {acc:κ->Bool} (H:NumOk nx first G B) (hB:B<=1000000) (hN:bfE nx first N):Data.sm ((0,(bfS nx first N).map acc,bfR nx first N):AutT):=by
 have hl:=H.bound _ (jl (nx:=nx) (first:=first) N) (eW H.g0 H.gn N)
 refine ⟨trivial,⟨by rw[List.length_map];omega,fun _ _=>trivial⟩,?_,?_⟩
 ·rw[ga hN.2];have:=hN.1;omega
 ·have key: ∀i,i<=N-> ∀r∈bfR nx first i,r.length=9:=by
   intro i
   induction i with
   | zero=>intro _ r hr;cases hr
   | succ i ih =>
    intro hi r hr
    have hlt:=hN.2 i (by omega)
    rw[oC hlt] at hr
    rcases aD hr with hr | hr
    ·exact ih (by omega) r hr
    ·obtain rfl:=ak hr
     rw[dL,H.len _ (eW H.g0 H.gn i _ (List.getElem_mem hlt))]
  intro r hr
  exact ⟨by rw[key N (aB _) r hr];decide,fun _ _=>trivial⟩
theorem D0:Data.sm nothing:=⟨trivial,⟨by decide,fun _ _=>trivial⟩,by decide,fun r hr=>by
 obtain rfl:=ak hr
 exact ⟨by decide,fun _ _=>trivial⟩⟩
end D
namespace D
open Go.RowKit
theorem wM {κ:Type} [DecidableEq κ] {l m:List κ} (h:l <+:m) {y:κ} (hy:y∈l):(m.idxOf y:Int)=l.idxOf y:=by
 obtain ⟨t,rfl⟩:=h
 rw[List.idxOf_append,if_pos hy]
theorem He {κ:Type} [DecidableEq κ] : ∀(l:List κ) (os:List (Option κ)) (i:Nat),i<os.length->nth (nbR l os) (i:Int)=nbI (nbS l os) (nth os (i:Int))
 | l,o::os,0,_=>by
  show nbI l o=nbI (nbS (nbL l o) os) o
  cases o with
  | none=>rfl
  | some y =>
   have hm:y∈nbL l (some y):=GO.2 (.inr rfl)
   simp only[nbI]
   rw[wM (g9 _ os) hm]
   by_cases c:y∈l
   ·rw[gQ c]
   ·rw[gl c,List.idxOf_append,if_neg c,lZ c];simp
 | l,o::os,i+1,h=>by
  have h':i<os.length:=by simpa using h
  have ih:=He (nbL l o) os i h'
  have e1:nth (nbR l (o::os)) ((i+1:Nat):Int)=nth (nbR (nbL l o) os) (i:Int):=by
   rw[bN (by rw[dL];exact h),bN (by rw[dL];exact h')];rfl
  have e2:nth (o::os) ((i+1:Nat):Int)=nth os (i:Int):=by rw[bN h,bN h'];rfl
  rw[e1,e2];exact ih
theorem lC {κ:Type} [DecidableEq κ] {l:List κ} {y:κ} (h:y∈l): ∃(q:Nat) (hq:q<l.length),nbI l (some y)=(q:Int)/\l[q] =y:=
 ⟨l.idxOf y,List.idxOf_lt_length_of_mem h,rfl,by simp⟩
theorem yf {κ:Type} [DecidableEq κ] {l:List κ} {y:κ} (h:y∉l):nbI l (some y)=(l.length:Int):=by simp only[nbI,lZ h]
def Lf:List Int->Nat->Nat->Prop
 | [],c,m=>c=m
 | x::xs,c,m=>(x= -1/\Lf xs c m)\/(0<=x/\x<c/\Lf xs c m)\/(x=c/\Lf xs (c+1) m)
theorem yg {κ:Type} [DecidableEq κ] : ∀(os:List (Option κ)) (l:List κ),Lf (nbR l os) l.length (nbS l os).length
 | [],l=>rfl
 | none::os,l=>.inl ⟨rfl,yg os l⟩
 | some y::os,l=>by
  by_cases c:y∈l
  ·refine .inr (.inl ⟨Int.natCast_nonneg _,?_,?_⟩)
   ·have:=List.idxOf_lt_length_of_mem c
    simp only[nbI];omega
   ·show Lf (nbR (nbL l (some y)) os) l.length (nbS (nbL l (some y)) os).length
    rw[gQ c];exact yg os l
  ·refine .inr (.inr ⟨by simp only[nbI,lZ c],?_⟩)
   show Lf (nbR (nbL l (some y)) os) (l.length+1) (nbS (nbL l (some y)) os).length
   have:=yg os (l++ [y])
   rw[gl c]
   simpa using this
def Qg:List Int->List (Option (List Int))->Prop
 | [],[] =>True
 | x::xs,o::os=>((x<0/\o=none)\/(0<=x/\ ∃t,o=some (x::t)))/\Qg xs os
 | _,_=>False
theorem Hf: ∀(xs:List Int) (os:List (Option (List Int))),xs.length=os.length->(∀i (h:i<xs.length) (h':i<os.length),(xs[i] < 0/\os[i] =none)\/(0<=xs[i] /\ ∃t,os[i] =some (xs[i] ::t)))->Qg xs os
 | [],[],_,_=>trivial
 | x::xs,o::os,hl,h=>⟨h 0 (by simp) (by simp),Hf xs os (by simpa using hl) fun i h1 h2=>h (i+1) (by simpa using h1) (by simpa using h2)⟩
theorem kH: ∀(xs:List Int) (os:List (Option (List Int))) (l:List (List Int)) (c m:Nat),Qg xs os->Lf xs c m->(∀y∈l,∃h t,y=h::t/\h<c)->
  m+l.length<=(nbS l os).length+c/\(l.length=c->(∀(q:Nat) (hq:q<l.length),∃t,l[q] =(q:Int)::t)->(nbS l os).length=m->nbR l os=xs)
 | [],[],l,c,m,_,hn,_=>by
  have hn:c=m:=hn
  subst hn
  exact ⟨by simp[nbS];omega,fun _ _ _=>rfl⟩
 | x::xs,o::os,l,c,m,hr,hn,hh=>by
  obtain ⟨hr1,hr2⟩:=hr
  rcases hn with ⟨rfl,hn⟩ | ⟨hx0,hxc,hn⟩ | ⟨rfl,hn⟩
  ·have ho:o=none:=by
    rcases hr1 with ⟨-,h⟩ | ⟨h,-⟩
    ·exact h
    ·omega
   subst ho
   obtain ⟨i1,i2⟩:=kH xs os l c m hr2 hn hh
   exact ⟨i1,fun h1 h2 h3=>by show -1::nbR l os=_;rw[i2 h1 h2 h3]⟩
  ·obtain ⟨t,rfl⟩: ∃t,o=some (x::t):=by
    rcases hr1 with ⟨h,-⟩ | ⟨-,h⟩
    ·omega
    ·exact h
   by_cases k:(x::t)∈l
   ·obtain ⟨i1,i2⟩:=kH xs os l c m hr2 hn hh
    have hb:nbL l (some (x::t))=l:=gQ k
    refine ⟨by show m+l.length<=(nbS (nbL l (some (x::t))) os).length+c;rw[hb];exact i1,fun h1 h2 h3=>?_⟩
    have h3:(nbS (nbL l (some (x::t))) os).length=m:=h3
    rw[hb] at h3
    obtain ⟨q,hq,e1,e2⟩:=lC k
    obtain ⟨t',ht'⟩:=h2 _ hq
    rw[e2] at ht'
    have:x=(q:Int):=by injection ht'
    show nbI l (some (x::t))::nbR (nbL l (some (x::t))) os=_
    rw[e1,<-this,hb,i2 h1 h2 h3]
   ·have hb:nbL l (some (x::t))=l++ [x::t]:=gl k
    obtain ⟨i1,i2⟩:=kH xs os (l++ [x::t]) c m hr2 hn (fun y hy=>by
     rcases aD hy with hy | hy
     ·exact hh y hy
     ·obtain rfl:=ak hy
      exact ⟨x,t,rfl,hxc⟩)
    rw[ah,List.length_singleton] at i1
    refine ⟨by show m+l.length<=(nbS (nbL l (some (x::t))) os).length+c;rw[hb];omega,fun h1 h2 h3=>?_⟩
    have h3:(nbS (nbL l (some (x::t))) os).length=m:=h3
    rw[hb] at h3
    omega
  ·obtain ⟨t,rfl⟩: ∃t,o=some ((c:Int)::t):=by
    rcases hr1 with ⟨h,-⟩ | ⟨-,h⟩
    ·omega
    ·exact h
   have k:((c:Int)::t)∉l:=fun k=>by
    obtain ⟨h,t',e,hlt⟩:=hh _ k
    have:(c:Int)=h:=by injection e
    omega
   have hb:nbL l (some ((c:Int)::t))=l++ [(c:Int)::t]:=gl k
   obtain ⟨i1,i2⟩:=kH xs os (l++ [(c:Int)::t]) (c+1) m hr2 hn (fun y hy=>by
    rcases aD hy with hy | hy
    ·obtain ⟨h,t',e,hlt⟩:=hh y hy
     exact ⟨h,t',e,by omega⟩
    ·obtain rfl:=ak hy
     exact ⟨c,t,rfl,by omega⟩)
   have hlen:(l++ [(c:Int)::t]).length=l.length+1:=by simp
   rw[hlen] at i1
   refine ⟨by show m+l.length<=(nbS (nbL l (some ((c:Int)::t))) os).length+c;rw[hb];omega,fun h1 h2 h3=>?_⟩
   have h3:(nbS (nbL l (some ((c:Int)::t))) os).length=m:=h3
   rw[hb] at h3
   have:=i2 (by rw[hlen,h1]) (fun q hq=>by
    by_cases e:q<l.length
    ·rw[List.getElem_append_left e];exact h2 q e
    ·have e:q=l.length:=by omega
     subst e
     exact ⟨t,by simp;omega⟩) h3
   show nbI l (some ((c:Int)::t))::nbR (nbL l (some ((c:Int)::t))) os=_
   rw[hb,this,yf k,h1]
theorem BA (xs ys:List Int) (hN:xs.length<=1048576): ∃r,lJ xs ys=some r/\(r=0↔xs=ys):=by
 unfold lJ
 have h0:=Pe (f:=kR xs ys) xs ys (fun i h h'=>by
  simp only[kR,dS h,dS h',if_true,aY h,aY h',aa,aC (show i<9223372036854775807 by omega)]
  by_cases h1:xs[i] < ys[i]
  ·simp[h1]
  ·by_cases h2:xs[i] > ys[i]
   ·simp[h1,h2]
   ·simp[h1,h2]) (fun i hi=>by
  simp only[kR]
  by_cases h1:i<xs.length
  ·have h2: ¬i<ys.length:=by omega
   simp[h1,h2]
  ·simp[h1]) xs.length 0 br (by omega) (jC _ (by omega))
 rw[show (((0:Nat):Int))=(0:Int) from rfl] at h0
 rcases h0 with ⟨r,e,h1,h2⟩ | ⟨s,e,h1⟩
 ·exact ⟨r,by rw[e];rfl,by simp[h1,h2]⟩
 ·rw[e]
  simp only[a6]
  by_cases c1:xs.length<ys.length
  ·exact ⟨-1,by simp[c1],by simp;intro e;subst e;omega⟩
  ·by_cases c2:xs.length>ys.length
   ·exact ⟨1,by simp[c1,c2],by simp;intro e;subst e;omega⟩
   ·exact ⟨0,by simp[c1,c2],by simpa using h1 (by omega)⟩
theorem Ab (xs ys:List Int) (hN:xs.length<=9223372036854775807):cz xs ys=some (decide (xs=ys)):=
 eqL (f:=b8 xs ys) xs ys hN (fun i h h'=>by
  simp only[b8,dS h,if_true,aY h,aY h',aa,aC (show i<9223372036854775807 by omega)]
  by_cases c:xs[i] =ys[i] <;> simp[c]) (by simp only[b8,cH];rfl)
def CQ (a:AutT):List Int:=(List.range a.2.1.length).map fun s:Nat=>if nth (live a) (s:Int)=true then (if nth a.2.1 (s:Int)=true then 1 else 0) else -1
def ent (a:AutT) (c:List Int) (s:Int) (k:Nat):Int:=if mv a s k<0 then -1 else nth c (mv a s k)
def wN (a:AutT) (c:List Int) (s:Int):List Int:=nth c s::(List.range 9).map fun k=>ent a c s k
def vO (a:AutT) (c:List Int) (s:Nat):Option (List Int):=if nth c (s:Int)<0 then none else some (wN a c s)
def keys (a:AutT) (c:List Int):List (Option (List Int)):=(List.range a.2.1.length).map (vO a c)
def vq (a:AutT) (c:List Int):List Int:=nbR [] (keys a c)
def sZ (a:AutT) (c:List Int):Nat:=(nbS [] (keys a c)).length
def cI (a:AutT):Nat->List Int
 | 0=>CQ a
 | j+1=>vq a (cI a j)
section
variable {a:AutT} {n:Nat}
theorem dz (a:AutT) (c:List Int):(keys a c).length=a.2.1.length:=by simp[keys]
theorem BB {c:List Int} {s:Nat} (h:s<a.2.1.length):nth (keys a c) (s:Int)=vO a c s:=by
 rw[bN (by simpa [keys] using h)];simp[keys]
theorem uZ (a:AutT) (c:List Int):(vq a c).length=a.2.1.length:=by rw[vq,dL,dz]
theorem kI (a:AutT): ∀j,(cI a j).length=a.2.1.length
 | 0=>by simp[cI,CQ]
 | j+1=>uZ a _
theorem mG {κ:Type} [DecidableEq κ] : ∀(l:List κ) (os:List (Option κ)),(nbS l os).length<=l.length+os.length
 | l,[] =>by simp[nbS]
 | l,o::os=>by
  have h:=mG (nbL l o) os
  have:(nbL l o).length<=l.length+1:=by
   cases o with
   | none=>simp[nbL]
   | some x=>unfold nbL;simp only;split <;> simp
  show (nbS (nbL l o) os).length<=_
  rw[au];omega
theorem BC (a:AutT) (c:List Int):sZ a c<=a.2.1.length:=by
 have:=mG ([] :List (List Int)) (keys a c)
 rw[dz] at this
 simpa [sZ] using this
theorem rF {c:List Int} {s:Nat} (h:s<a.2.1.length):nth (vq a c) (s:Int)=nbI (nbS [] (keys a c)) (vO a c s):=by
 rw[vq,He _ _ _ (by rw[dz];exact h),BB h]
theorem u7 {c:List Int} {s:Nat} (h:s<a.2.1.length) (hc: ¬nth c (s:Int)<0):wN a c s∈nbS [] (keys a c):=by
 refine mC.2 (.inr ?_)
 refine List.mem_map.2 ⟨s,List.mem_range.2 h,?_⟩
 unfold vO;rw[if_neg hc]
theorem ta {c:List Int} {s:Nat} (h:s<a.2.1.length):(nth (vq a c) (s:Int)<0↔nth c (s:Int)<0)/\(nth (vq a c) (s:Int)<0->nth (vq a c) (s:Int)= -1):=by
 rw[rF h]
 unfold vO
 by_cases hc:nth c (s:Int)<0
 ·rw[if_pos hc];simp[nbI,hc]
 ·rw[if_neg hc]
  obtain ⟨q,hq,e,-⟩:=lC (u7 h hc)
  rw[e]
  exact ⟨⟨fun h=>by omega,fun h=>absurd h hc⟩,fun h=>by omega⟩
theorem NJ {c:List Int} {s:Nat} (h:s<a.2.1.length):nth (vq a c) (s:Int)<(a.2.1.length:Int):=by
 rw[rF h]
 unfold vO
 by_cases hc:nth c (s:Int)<0
 ·rw[if_pos hc];simp only[nbI];omega
 ·rw[if_neg hc]
  obtain ⟨q,hq,e,-⟩:=lC (u7 h hc)
  have:=BC a c
  unfold sZ at this
  rw[e];omega
theorem Hg {c:List Int} {s t:Nat} (hs:s<a.2.1.length) (ht:t<a.2.1.length) (h0:0<=nth (vq a c) (s:Int)) (h:nth (vq a c) (s:Int)=nth (vq a c) (t:Int)):wN a c s=wN a c t:=by
 have n1: ¬nth c (s:Int)<0:=fun k=>by have:=(ta hs).1.2 k;omega
 have n2: ¬nth c (t:Int)<0:=fun k=>by have:=(ta ht).1.2 k;omega
 rw[rF hs,rF ht] at h
 unfold vO at h
 rw[if_neg n1,if_neg n2] at h
 obtain ⟨q,hq,e1,e2⟩:=lC (u7 hs n1)
 obtain ⟨q',hq',e1',e2'⟩:=lC (u7 ht n2)
 rw[e1,e1'] at h
 obtain rfl:q=q':=by omega
 rw[<-e2,<-e2']
theorem u9 (a:AutT) {s:Nat} (h:s<a.2.1.length): ∀j,(nth (cI a j) (s:Int)<0↔nth (live a) (s:Int)=false)/\(nth (cI a j) (s:Int)<0->nth (cI a j) (s:Int)= -1)
 | 0=>by
  have e:nth (cI a 0) (s:Int)=if nth (live a) (s:Int)=true then (if nth a.2.1 (s:Int)=true then 1 else 0) else -1:=by
   show nth (CQ a) (s:Int)=_
   rw[bN (by simpa [CQ] using h)];simp[CQ]
  rw[e]
  cases nth (live a) (s:Int) <;> cases nth a.2.1 (s:Int) <;> simp
 | j+1=>by
  have ih:=u9 a h j
  have:=ta (c:=cI a j) h
  exact ⟨this.1.trans ih.1,this.2⟩
theorem Lg (a:AutT) {s t:Nat} (hs:s<a.2.1.length) (ht:t<a.2.1.length): ∀j,0<=nth (cI a j) (s:Int)->nth (cI a j) (s:Int)=nth (cI a j) (t:Int)->nth a.2.1 (s:Int)=nth a.2.1 (t:Int)
 | 0,h0,h=>by
  have e: ∀ {s:Nat},s<a.2.1.length->nth (cI a 0) (s:Int)=if nth (live a) (s:Int)=true then (if nth a.2.1 (s:Int)=true then 1 else 0) else -1:=by
   intro s h
   show nth (CQ a) (s:Int)=_
   rw[bN (by simpa [CQ] using h)];simp[CQ]
  rw[e hs] at h0 h
  rw[e ht] at h
  revert h0 h
  cases nth (live a) (s:Int) <;> cases nth a.2.1 (s:Int) <;> cases nth (live a) (t:Int) <;> cases nth a.2.1 (t:Int) <;> simp
 | j+1,h0,h=>by
  have k:=Hg (c:=cI a j) hs ht h0 h
  have h1:nth (cI a j) (s:Int)=nth (cI a j) (t:Int):=by
   unfold wN at k;injection k
  refine Lg a hs ht j ?_ h1
  have:=(ta (c:=cI a j) hs).1
  by_cases q:nth (cI a j) (s:Int)<0
  ·have:=this.2 q
   have h0:0<=nth (vq a (cI a j)) (s:Int):=h0
   omega
  ·omega
theorem NK (a:AutT) (j:Nat):Lf (cI a (j+1)) 0 (sZ a (cI a j)):=yg (keys a (cI a j)) []
theorem JZ (a:AutT) {c:List Int} (hc:c.length=a.2.1.length):Qg c (keys a c):=by
 refine Hf _ _ (by rw[dz,hc]) fun i h h'=>?_
 have e1:c[i] =nth c (i:Int):=(bN h).symm
 have e2:(keys a c)[i] =vO a c i:=by simp[keys]
 rw[e1,e2]
 unfold vO
 by_cases k:nth c (i:Int)<0
 ·exact .inl ⟨k,by rw[if_pos k]⟩
 ·exact .inr ⟨by omega,_,by rw[if_neg k];rfl⟩
theorem Hh (a:AutT) (j:Nat):sZ a (cI a j)<=sZ a (cI a (j+1))/\(sZ a (cI a (j+1))=sZ a (cI a j)->cI a (j+2)=cI a (j+1)):=by
 obtain ⟨h1,h2⟩:=kH (cI a (j+1)) (keys a (cI a (j+1))) [] 0 (sZ a (cI a j)) (JZ a (kI a _)) (NK a j) (fun y hy=>by cases hy)
 exact ⟨by simpa [sZ] using h1,fun h=>h2 rfl (fun q hq=>absurd hq (Nat.not_lt_zero q)) h⟩
theorem Lh {j k:Nat} (h:cI a (j+1)=cI a j) (hk:j<=k):cI a k=cI a j:=by
 induction hk with
 | refl=>rfl
 | step _ ih=>rw[cI,ih];exact h
theorem Hi {j k:Nat} (h:cI a (j+1)=cI a j) (h':cI a (k+1)=cI a k):cI a j=cI a k:=by
 rcases Nat.le_total j k with e | e
 ·exact (Lh h e).symm
 ·exact Lh h' e
theorem NL (a:AutT): ∃j,j<=a.2.1.length/\cI a (j+1)=cI a j:=by
 by_cases h0:cI a 1=cI a 0
 ·exact ⟨0,Nat.zero_le _,h0⟩
 have hpos:1<=sZ a (cI a 0):=by
  refine Nat.one_le_iff_ne_zero.2 fun hz=>h0 ?_
  have hnone: ∀s:Nat,s<a.2.1.length->nth (cI a 0) (s:Int)<0:=fun s hs=>by
   refine Classical.byContradiction fun k=>?_
   have:=u7 (c:=cI a 0) hs k
   have hl:=List.length_pos_of_mem this
   unfold sZ at hz;omega
  refine Nz (by rw[kI,kI]) fun i hi=>?_
  rw[kI] at hi
  have h1:=(u9 a hi 0).2 (hnone i hi)
  have h2:=(u9 a hi 1).2 (((u9 a hi 1).1.trans (u9 a hi 0).1.symm).2 (hnone i hi))
  rw[h1,h2]
 have key: ∀m,(∃j,j<=m/\cI a (j+1)=cI a j)\/m+1<=sZ a (cI a m):=by
  intro m
  induction m with
  | zero=>exact .inr hpos
  | succ m ih =>
   rcases ih with ⟨j,hj,e⟩ | ih
   ·exact .inl ⟨j,by omega,e⟩
   ·obtain ⟨g1,g2⟩:=Hh a m
    by_cases e:sZ a (cI a (m+1))=sZ a (cI a m)
    ·exact .inl ⟨m+1,aB _,g2 e⟩
    ·exact .inr (by omega)
 rcases key a.2.1.length with h | h
 ·exact h
 ·have:=BC a (cI a a.2.1.length);omega
end
end D
namespace D
open Go.RowKit
section
variable {a:AutT} {n:Nat} {c:List Int}
theorem CR (k:Nat) (s:Int):(List.range (k+1)).map (fun k=>ent a c s k)=(List.range k).map (fun k=>ent a c s k)++ [ent a c s k]:=by simp[List.range_succ]
theorem QO (V:VA a n) (hn:n<=1000000) (hc:c.length=n) {s:Nat} (hs:s<n):lK a c s=some (wN a c s):=by
 unfold lK
 rw[aG (by omega) (by omega)];simp only[aa]
 have:=bg (f:=jH a c s) (fun k=>(nth c (s:Int)::(List.range k).map (fun k=>ent a c s k),(k:Int))) 9 (fun k hk=>by
  have hm:=V.mv (s:=s) (k:=k) (by omega) (by omega) hk
  unfold jH
  simp only
  rw[if_pos (by simp;omega),V.get (by omega) (by omega)];simp only[aa]
  rw[V.get2 (by omega) (by omega) hk,CR];simp only[aa,aC (show k<9223372036854775807 by omega)]
  by_cases h:mv a s k<0
  ·rw[if_pos (by simpa using h),aI (by simp;omega),show ent a c s k= -1 from by unfold ent;rw[if_pos h]];rfl
  ·rw[if_neg (by simpa using h),aG (by omega) (by omega)];simp only[aa]
   rw[aI (by simp;omega),show ent a c s k=nth c (mv a s k) from by unfold ent;rw[if_neg h]];rfl) (by unfold jH;simp) (by unfold br;omega)
 exact aE this
theorem QP (V:VA a n) (hn:n<=1000000) (hc:c.length=n) {s:Nat} (hs:s<n):aF (cw c (nth a.2.2 (s:Int))) br (0,[nth c (s:Int)])=some (.brk (9,wN a c s)):=by
 have hr:=V.rowAt (s:=s) (by omega) (by omega)
 exact bg (f:=cw c (nth a.2.2 (s:Int))) (fun k=>((k:Int),nth c (s:Int)::(List.range k).map (fun k=>ent a c s k))) 9 (fun k hk=>by
  have hm:=V.mv (s:=s) (k:=k) (by omega) (by omega) hk
  unfold cw
  simp only
  rw[if_pos (by simp[hr];omega),V.get2 (by omega) (by omega) hk,CR];simp only[aa,aC (show k<9223372036854775807 by omega)]
  by_cases h:mv a s k<0
  ·have e:mv a s k= -1:=by omega
   rw[if_neg (by simp;omega)];simp only[aa]
   rw[aI (by simp;omega),show ent a c s k=mv a s k from by unfold ent;rw[if_pos h,e]];rfl
  ·rw[if_pos (by simp;omega),aG (by omega) (by omega)];simp only[aa]
   rw[aI (by simp;omega),show ent a c s k=nth c (mv a s k) from by unfold ent;rw[if_neg h]];rfl) (by unfold cw;simp[hr]) (by unfold br;omega)
theorem Ac {κ:Type} [DecidableEq κ] {l t r:List κ} {x:κ} (e:l=t++x::r) (hx:x∉t):nbI l (some x)=(t.length:Int):=by
 subst e
 simp only[nbI]
 rw[List.idxOf_append,if_neg hx,List.idxOf_cons_self,Nat.zero_add]
def Pw (l:List (List Int)) (x:List Int):Int:=if x∈l then nbI l (some x) else -1
theorem Px {l:List (List Int)} {x cs:List Int} {q:Int} (hl:l.length<=1000000) (hd:l.Nodup) (hx: ∀y∈l,y.length<=1048576):aF (eA (l,cs,q) x) br (-1,0)=some (.brk (Pw l x,(l.length:Int))):=by
 have:=bg (f:=eA (l,cs,q) x) (fun k=>(if x∈l.take k then nbI l (some x) else -1,(k:Int))) l.length (fun k hk=>by
  unfold eA
  simp only
  rw[if_pos (by simp;omega),aG (by omega) (by omega)];simp only[aa,Int.toNat_natCast,aC (show k<9223372036854775807 by omega)]
  obtain ⟨r,e,hr⟩:=BA (nth l (k:Int)) x (hx _ (eH (by omega) (by omega)))
  rw[e,take_one hk];simp only[aa,List.mem_append,List.mem_singleton]
  by_cases h:nth l (k:Int)=x
  ·have h0:r=0:=hr.2 h
   have hm:x∈l:=h ▸ eH (by omega) (by omega)
   obtain ⟨q,hq,e1,e2⟩:=lC hm
   have:q=k:=by
    have h1:l[q]? =some x:=by rw[List.getElem?_eq_getElem hq,e2]
    have h2:l[k]? =some x:=by rw[List.getElem?_eq_getElem hk,<-bN hk,h]
    exact (List.getElem?_inj hq hd).1 (h1.trans h2.symm)
   subst this
   rw[if_pos (by simp[h0]),if_pos (.inr h.symm),e1];rfl
  ·have h0:r≠0:=fun e=>h (hr.1 e)
   have hn: ¬x=nth l (k:Int):=fun e=>h e.symm
   rw[if_neg (by simpa using h0)]
   simp[hn]) (by unfold eA;simp) (m6 (by omega))
 rw[List.take_of_length_le (aB _)] at this
 exact this
theorem Py {l:List (List Int)} {x:List Int} {f:List Int->Option Bool} (hl:l.length<=1000000) (hf: ∀y∈l,f y=some (decide (y=x))):bP l f=some (Pw l x):=by
 unfold bP
 obtain ⟨o,e,hq⟩:=cM (f:=bW l f) (fun k s=>s=(k:Int)/\x∉l.take k) (fun o=>(x∈l/\o= .ret (nbI l (some x)))\/(x∉l/\ ∃s,o= .brk s)) l.length (s:=0) (by
  rintro k s hk ⟨rfl,hx⟩
  unfold bW
  by_cases hkl:k<l.length
  ·rw[if_pos (by simp;omega),aG (by omega) (by omega)];simp only[aa]
   rw[hf _ (eH (by omega) (by omega))];simp only[aa]
   by_cases h:nth l (k:Int)=x
   ·refine .inr ⟨_,by rw[if_pos (by simpa using h)],(fun s' e=>by cases e),.inl ?_⟩
    have hm:x∈l:=h ▸ eH (by omega) (by omega)
    refine ⟨hm,?_⟩
    have e:l=l.take k++(x::l.drop (k+1)):=by
     rw[<-h,bN hkl,<-List.drop_eq_getElem_cons hkl,List.take_append_drop]
    rw[Ac e hx,aA,Nat.min_eq_left (by omega)]
   ·refine .inl ⟨hkl,_,by rw[if_neg (by simpa using h)],by rw[aC (by omega)],?_⟩
    rw[take_one hkl,List.mem_append,List.mem_singleton]
    rintro (h' | h')
    ·exact hx h'
    ·exact h h'.symm
  ·refine .inr ⟨_,by rw[if_neg (by simp;omega)],(fun s' e=>by cases e),.inr ⟨?_,_,rfl⟩⟩
   rwa [List.take_of_length_le (by omega)] at hx) ⟨rfl,by simp⟩ (m6 (by omega))
 unfold Pw
 rcases hq with ⟨hx,rfl⟩ | ⟨hx,s,rfl⟩
 ·rw[dx e,if_pos hx]
 ·rw[aE e,if_neg hx]
theorem vc {os:List (Option (List Int))} (h: ∀y,some y∈os->y.length=10): ∀y∈nbS [] os,y.length=10:=fun y hy=>by
 rcases mC.1 hy with hy | hy
 ·cases hy
 ·exact h y hy
theorem wO (a:AutT) (c:List Int): ∀y,some y∈keys a c->y.length=10:=by
 intro y hy
 obtain ⟨s,-,e⟩:=List.mem_map.1 hy
 unfold vO at e
 split at e
 ·cases e
 ·rw[<-ae e];simp[wN]
section
variable (V:VA a n) (hn:n<=1000000) (hc:c.length=n)
include V hn hc
theorem CS (s:Nat):(nbS [] ((keys a c).take s)).length<=n:=by
 have:=mG ([] :List (List Int)) ((keys a c).take s)
 rw[aA,dz,V.len] at this
 simp at this;omega
theorem J4 {m:Int} :aF (eB a (c,m)) br ([],[],0)=some (.brk (nbS [] (keys a c),vq a c,(n:Int))):=by
 have hlen:=V.len
 have:=bg (f:=eB a (c,m)) (fun s=>(nbS [] ((keys a c).take s),nbR [] ((keys a c).take s),(s:Int))) n (fun s hs=>by
  have hkl:=CS V hn hc s
  have hrl:(nbR [] ((keys a c).take s)).length<=n:=by rw[dL,aA,dz];omega
  unfold eB
  simp only
  rw[if_pos (by simp;omega),aG (by omega) (by omega)];simp only[aa]
  rw[take_one (by rw[dz];omega),oA,oB,BB (by omega)]
  simp only[aC (show s<9223372036854775807 by omega)]
  by_cases h:nth c (s:Int)<0
  ·rw[if_pos (by simpa using h),aI (by simp;omega),show vO a c s=none from by unfold vO;rw[if_pos h]];rfl
  ·rw[if_neg (by simpa using h),show vO a c s=some (wN a c s) from by unfold vO;rw[if_neg h]]
   rw[show lK (a.1,a.2.1,a.2.2) c (s:Int)=some (wN a c s) from QO V hn hc hs];simp only[aa]
   rw[aE (Px (by omega) (lY (by simp)) (fun y hy=>by rw[vc (fun y hy=>wO a c y (List.mem_of_mem_take hy)) y hy];decide))]
   simp only
   unfold Pw
   by_cases k:wN a c s∈nbS [] ((keys a c).take s)
   ·obtain ⟨q,hq,e1,e2⟩:=lC k
    rw[if_pos k,gQ k,e1,if_neg (by simp)];simp only[aa]
    rw[aI (by simp;omega)];rfl
   ·rw[if_neg k,gl k,yf k,if_pos (show decide ((-1:Int)<0)=true from rfl),aI (by simp;omega)];simp only[aa]
    rw[aI (by simp;omega)];rfl) (by
  unfold eB
  simp only
  rw[if_neg (by simp;omega)]) (m6 (by omega))
 rw[show (keys a c).take n=keys a c from List.take_of_length_le (by rw[dz];omega)] at this
 exact this
theorem J5:c8 a c=some (vq a c,(sZ a c:Int)):=by
 have hlen:=V.len
 unfold c8
 have:=bg (f:=de a c) (fun s=>(nbS [] ((keys a c).take s),nbR [] ((keys a c).take s),(s:Int))) n (fun s hs=>by
  have hkl:=CS V hn hc s
  have hrl:(nbR [] ((keys a c).take s)).length<=n:=by rw[dL,aA,dz];omega
  unfold de
  simp only
  rw[if_pos (by simp;omega),aG (by omega) (by omega)];simp only[aa]
  rw[take_one (by rw[dz];omega),oA,oB,BB (by omega)]
  simp only[aC (show s<9223372036854775807 by omega)]
  by_cases h:nth c (s:Int)<0
  ·rw[if_pos (by simpa using h),aI (by simp;omega),show vO a c s=none from by unfold vO;rw[if_pos h]];rfl
  ·rw[if_neg (by simpa using h),show vO a c s=some (wN a c s) from by unfold vO;rw[if_neg h],V.get (by omega) (by omega)];simp only[aa]
   rw[aE (QP V hn hc hs)];simp only
   rw[Py (x:=wN a c s) (by omega) (fun y hy=>by
    unfold fl
    rw[Ab _ _ (by rw[vc (fun y hy=>wO a c y (List.mem_of_mem_take hy)) y hy];decide)];rfl)];simp only[aa]
   unfold Pw
   by_cases k:wN a c s∈nbS [] ((keys a c).take s)
   ·obtain ⟨q,hq,e1,e2⟩:=lC k
    rw[if_pos k,gQ k,e1,if_neg (by simp)];simp only[aa]
    rw[aI (by simp;omega)];rfl
   ·rw[if_neg k,gl k,yf k,if_pos (show decide ((-1:Int)<0)=true from rfl),aI (by simp;omega)];simp only[aa]
    rw[aI (by simp;omega)];rfl) (by
  unfold de
  simp only
  rw[if_neg (by simp;omega)]) (m6 (by omega))
 rw[show (keys a c).take n=keys a c from List.take_of_length_le (by rw[dz];omega)] at this
 exact aE this
end
end
section
variable {a:AutT} {n:Nat} (V:VA a n) (hn:n<=1000000)
include V hn
theorem Ad (s:Nat):(List.range (s+1)).map (fun s:Nat=>if nth (live a) (s:Int)=true then (if nth a.2.1 (s:Int)=true then (1:Int) else 0) else -1)=(List.range s).map (fun s:Nat=>if nth (live a) (s:Int)=true then (if nth a.2.1 (s:Int)=true then 1 else 0) else -1)++ [if nth (live a) (s:Int)=true then (if nth a.2.1 (s:Int)=true then 1 else 0) else -1]:=by simp[List.range_succ]
theorem Pz:aF (ez a (live a)) br ([],0)=some (.brk (CQ a,(n:Int))):=by
 have hlen:=V.len
 have hll:(live a).length=n:=by rw[mE,hlen]
 have:=bg (f:=ez a (live a)) (fun s=>((List.range s).map (fun s:Nat=>if nth (live a) (s:Int)=true then (if nth a.2.1 (s:Int)=true then (1:Int) else 0) else -1),(s:Int))) n (fun s hs=>by
  unfold ez
  simp only
  rw[if_pos (by simp;omega),V.acc (by omega) (by omega)];simp only[aa]
  rw[Ad V hn,aG (xs:=live a) (by omega) (by omega)];simp only[aC (show s<9223372036854775807 by omega)]
  cases nth (live a) (s:Int) <;> cases nth a.2.1 (s:Int) <;> simp only[if_true,if_false,Bool.false_eq_true,aa] <;> rw[aI (by simp;omega)] <;> rfl) (by
  unfold ez
  simp only
  rw[if_neg (by simp;omega)]) (m6 (by omega))
 unfold CQ
 rw[hlen]
 exact this
theorem PA:aF (cd a (live a)) br ([],0)=some (.brk (CQ a,(n:Int))):=by
 have hlen:=V.len
 have hll:(live a).length=n:=by rw[mE,hlen]
 have:=bg (f:=cd a (live a)) (fun s=>((List.range s).map (fun s:Nat=>if nth (live a) (s:Int)=true then (if nth a.2.1 (s:Int)=true then (1:Int) else 0) else -1),(s:Int))) n (fun s hs=>by
  unfold cd
  simp only
  rw[if_pos (by simp;omega),aG (xs:=live a) (by omega) (by omega)];simp only[aa]
  rw[Ad V hn,V.acc (by omega) (by omega)];simp only[aC (show s<9223372036854775807 by omega)]
  cases nth (live a) (s:Int) <;> cases nth a.2.1 (s:Int) <;> simp only[if_true,if_false,Bool.false_eq_true,aa] <;> rw[aI (by simp;omega)] <;> rfl) (by
  unfold cd
  simp only
  rw[if_neg (by simp;omega)]) (m6 (by omega))
 unfold CQ
 rw[hlen]
 exact this
theorem Hj: ∃J,cI a (J+1)=cI a J/\gz a=some (cI a J):=by
 have hlen:=V.len
 unfold gz
 rw[show iI (a.1,a.2.1,a.2.2)=some (live a) from Lc V hn];simp only[aa]
 rw[aE (Pz V hn)]
 obtain ⟨J0,hJ0,hfix⟩:=NL a
 obtain ⟨o,e,j,rfl,hj⟩:=cM (f:=iJ a) (fun j s=>s=(cI a j,(j:Int))/\j<=J0) (fun o=> ∃j,o= .ret (cI a j)/\cI a (j+1)=cI a j) (J0+1) (s:=(cI a 0,0)) (by
  rintro j s hj ⟨rfl,hjJ⟩
  have hcl:(cI a j).length=n:=by rw[kI,hlen]
  unfold iJ
  simp only
  rw[if_pos (by simp;omega),aE (J4 V hn hcl)]
  simp only
  obtain ⟨r,er,hr⟩:=BA (vq a (cI a j)) (cI a j) (by rw[uZ];omega)
  rw[er];simp only[aa,aC (show j<9223372036854775807 by omega)]
  by_cases h:vq a (cI a j)=cI a j
  ·exact .inr ⟨_,by rw[if_pos (by simpa using hr.2 h)],(fun s' e=>by cases e),j,rfl,h⟩
  ·refine .inl ⟨by omega,(cI a (j+1),((j+1:Nat):Int)),by rw[if_neg (by simpa using fun e=>h (hr.1 e))];rfl,rfl,?_⟩
   by_cases e:j=J0
   ·subst e;exact absurd hfix h
   ·omega) ⟨rfl,Nat.zero_le _⟩ (m6 (by omega))
 exact ⟨j,hj,dx e⟩
theorem Hk: ∃J,cI a (J+1)=cI a J/\cU a=some (cI a J):=by
 have hlen:=V.len
 unfold cU
 rw[show dP (a.1,a.2.1,a.2.2)=some (live a) from Pj V hn];simp only[aa]
 rw[aE (PA V hn)]
 let kk:Nat->Int:=fun j=>match j with | 0=> -1 | i+1=>(sZ a (cI a i):Int)
 obtain ⟨o,e,j,rfl,hj⟩:=cM (f:=eD a) (fun j s=>s=(cI a j,kk j)/\(j:Int)<=kk j+1) (fun o=> ∃j,o= .ret (cI a j)/\cI a (j+1)=cI a j) (n+2) (s:=(cI a 0,-1)) (by
  rintro j s hj ⟨rfl,hjk⟩
  have hcl:(cI a j).length=n:=by rw[kI,hlen]
  have hle:=BC a (cI a j)
  unfold eD
  simp only
  rw[show c8 (a.1,a.2.1,a.2.2) (cI a j)=some (vq a (cI a j),(sZ a (cI a j):Int)) from J5 V hn hcl];simp only[aa]
  cases j with
  | zero =>
   refine .inl ⟨by omega,(cI a 1,kk 1),by rw[if_neg (by show¬((sZ a (cI a 0):Int) == -1)=true;simp)];rfl,rfl,?_⟩
   show (1:Int)<=(sZ a (cI a 0):Int)+1
   omega
  | succ i =>
   obtain ⟨g1,g2⟩:=Hh a i
   have hki:kk (i+1)=(sZ a (cI a i):Int):=rfl
   rw[hki] at hjk⊢
   by_cases h:sZ a (cI a (i+1))=sZ a (cI a i)
   ·refine .inr ⟨.ret (cI a (i+2)),by rw[if_pos (by simp[h])];rfl,(fun s' e=>by cases e),i+2,rfl,?_⟩
    have:=g2 h
    show vq a (cI a (i+2))=cI a (i+2)
    rw[this];exact this
   ·refine .inl ⟨?_,(cI a (i+2),kk (i+2)),by rw[if_neg (by simp;omega)];rfl,rfl,?_⟩
    ·omega
    ·show ((i+1+1:Nat):Int)<=(sZ a (cI a (i+1)):Int)+1
     omega) ⟨rfl,by show ((0:Nat):Int)<= -1+1;omega⟩ (m6 (by omega))
 exact ⟨j,hj,dx e⟩
theorem D1: ∃c,gz a=some c/\cU a=some c/\c.length=n/\vq a c=c/\ ∃j,c=cI a j:=by
 obtain ⟨J,hJ,es⟩:=Hj V hn
 obtain ⟨J',hJ',ei⟩:=Hk V hn
 have:=Hi hJ hJ'
 exact ⟨cI a J,es,by rw[this];exact ei,by rw[kI,V.len],hJ,J,rfl⟩
end
end D
namespace D
open Go.RowKit
section
variable {κ:Type} [DecidableEq κ] [Inhabited κ] {nx:κ->List (Option κ)} {first:κ} {G:κ->Prop} {B N:Nat} {acc:κ->Bool}
theorem vd: ∀(l:List κ) (os:List (Option κ)),∀t∈nbR l os,-1<=t/\t<((nbS l os).length:Int)
 | l,[] =>fun t ht=>by cases ht
 | l,o::os=>fun t ht=>by
  have hp:=g9 (nbL l o) os
  have hl:=hp.length_le
  rcases ax ht with rfl | ht
  ·show -1<=nbI l o/\nbI l o<((nbS (nbL l o) os).length:Int)
   cases o with
   | none=>exact ⟨by simp[nbI],by simp only[nbI];omega⟩
   | some y =>
    by_cases c:y∈l
    ·obtain ⟨q,hq,e,-⟩:=lC c
     rw[gQ c] at hl
     rw[e];exact ⟨by omega,by rw[gQ c];omega⟩
    ·rw[gl c] at hl
     rw[yf c];rw[ah] at hl
     exact ⟨by omega,by rw[gl c];simp at hl;omega⟩
  ·exact vd (nbL l o) os t ht
theorem PB (H:NumOk nx first G B) (hN:bfE nx first N):VA ((0,(bfS nx first N).map acc,bfR nx first N):AutT) N:=by
 have h0:0<N:=by
  have:=nO (nx:=nx) (first:=first) N
  have:=(List.getElem?_eq_some_iff.1 this).1
  have:=hN.1;omega
 have key: ∀i,i<=N-> ∀r∈bfR nx first i,r.length=9/\ ∀t∈r,-1<=t/\t<(N:Int):=by
  intro i
  induction i with
  | zero=>intro _ r hr;cases hr
  | succ i ih =>
   intro hi r hr
   have hlt:=hN.2 i (by omega)
   rw[oC hlt] at hr
   rcases aD hr with hr | hr
   ·exact ih (by omega) r hr
   ·obtain rfl:=ak hr
    refine ⟨by rw[dL,H.len _ (eW H.g0 H.gn i _ (List.getElem_mem hlt))],fun t ht=>?_⟩
    have:=vd _ _ t ht
    rw[<-sW hlt] at this
    have hl:=(jT (nx:=nx) (first:=first) hi).length_le
    have:=hN.1
    omega
 exact ⟨by show ((bfS nx first N).map acc).length=N;rw[List.length_map];exact hN.1.symm,⟨Int.le_refl _,by show (0:Int)<N;omega⟩,ga hN.2,fun r hr=>(key N (aB _) r hr).1,fun r hr=>(key N (aB _) r hr).2⟩
theorem BD (hlen: ∀x,(nx x).length=9) (hN:bfE nx first N):VA ((0,(bfS nx first N).map acc,bfR nx first N):AutT) N:=by
 have h0:0<N:=by
  have:=nO (nx:=nx) (first:=first) N
  have:=(List.getElem?_eq_some_iff.1 this).1
  have:=hN.1;omega
 have key: ∀i,i<=N-> ∀r∈bfR nx first i,r.length=9/\ ∀t∈r,-1<=t/\t<(N:Int):=by
  intro i
  induction i with
  | zero=>intro _ r hr;cases hr
  | succ i ih =>
   intro hi r hr
   have hlt:=hN.2 i (by omega)
   rw[oC hlt] at hr
   rcases aD hr with hr | hr
   ·exact ih (by omega) r hr
   ·obtain rfl:=ak hr
    refine ⟨by rw[dL,hlen _],fun t ht=>?_⟩
    have:=vd _ _ t ht
    rw[<-sW hlt] at this
    have hl:=(jT (nx:=nx) (first:=first) hi).length_le
    have:=hN.1
    omega
 exact ⟨by show ((bfS nx first N).map acc).length=N;rw[List.length_map];exact hN.1.symm,⟨Int.le_refl _,by show (0:Int)<N;omega⟩,ga hN.2,fun r hr=>(key N (aB _) r hr).1,fun r hr=>(key N (aB _) r hr).2⟩
end
theorem VA.self {a:AutT} {n:Nat} (v:VA a n):VA a a.2.1.length:=by
 have e:=v.len
 subst e
 exact v
theorem wP:VA nothing 1:=⟨rfl,⟨by decide,by decide⟩,rfl,fun r hr=>by
 obtain rfl:=ak hr
 decide,fun r hr=>by
 obtain rfl:=ak hr
 decide⟩
end D
namespace D
open Go.RowKit
theorem NM {l:List Int} {x:Int} (hl:l.length<=1000000) (hx:x∈l):aX x l=some (nbI l (some x)):=by
 unfold aX dF
 obtain ⟨o,e,hq⟩:=cM (f:=cY l x) (fun k s=>s=(k:Int)/\x∉l.take k) (fun o=>o= .ret (nbI l (some x))) l.length (s:=0) (by
  rintro k s hk ⟨rfl,hx'⟩
  unfold cY
  by_cases hkl:k<l.length
  ·rw[if_pos (by simp;omega),aG (by omega) (by omega)];simp only[aa]
   by_cases h:nth l (k:Int)=x
   ·refine .inr ⟨_,by rw[if_pos (by simp[h])],(fun s' e=>by cases e),?_⟩
    have e:l=l.take k++(x::l.drop (k+1)):=by
     rw[<-h,bN hkl,<-List.drop_eq_getElem_cons hkl,List.take_append_drop]
    rw[Ac e hx',aA,Nat.min_eq_left (by omega)]
   ·have h': ¬x=nth l (k:Int):=fun e=>h e.symm
    refine .inl ⟨hkl,_,by rw[if_neg (by simpa using h')],by rw[aC (by omega)],?_⟩
    rw[take_one hkl,List.mem_append,List.mem_singleton]
    rintro (h' | h')
    ·exact hx' h'
    ·exact h h'.symm
  ·rw[List.take_of_length_le (by omega)] at hx'
   exact absurd hx hx') ⟨rfl,by simp⟩ (m6 (by omega))
 subst hq
 rw[dx e];rfl
section
variable {a:AutT} {n:Nat}
def rep (c:List Int) (x:Int):Int:=nbI c (some x)
theorem Hl {c:List Int} {x:Int} (h:x∈c):0<=rep c x/\rep c x<c.length/\nth c (rep c x)=x:=by
 obtain ⟨q,hq,e1,e2⟩:=lC h
 unfold rep
 rw[e1]
 exact ⟨by omega,by omega,by rw[bN hq,e2]⟩
def PC (a:AutT) (n:Nat) (r:AutT):Prop:=(nth (live a) a.1=false/\r=nothing)\/(nth (live a) a.1=true/\ ∃(j:Nat) (c:List Int) (nx:Int->List (Option Int)) (ac:Int->Bool) (N:Nat),c=cI a j/\(∀r,good n (live a) r->nx (nth c r)=lB a c (live a) r)/\(∀r,good n (live a) r->ac (nth c r)=nth a.2.1 r)/\bfE nx (nth c a.1) N/\(∀x∈bfS nx (nth c a.1) N,(nx x).length=9)/\r=(0,(bfS nx (nth c a.1) N).map ac,bfR nx (nth c a.1) N))
theorem wQ (V:VA a n) (hn:n<=1000000): ∃r,eC a=some r/\bZ a=some r/\Data.sm r/\VA r r.2.1.length/\r.2.1.length<=n/\PC a n r:=by
 have hlen:=V.len
 have hst:=V.start
 have hll:(live a).length=n:=by rw[mE,hlen]
 obtain ⟨c,es,ei,hcl,hfix,j,hj⟩:=D1 V hn
 have hneg: ∀s:Int,0<=s->s<n->(nth c s<0↔nth (live a) s=false):=fun s h0 h1=>by
  have:=(u9 a (s:=s.toNat) (by omega) j).1
  rw[<-hj,show ((s.toNat:Nat):Int)=s from by omega] at this
  exact this
 have hlt: ∀s:Int,0<=s->s<n->nth c s<n:=fun s h0 h1=>by
  have:=NJ (c:=c) (a:=a) (s:=s.toNat) (by omega)
  rw[hfix,hlen,show ((s.toNat:Nat):Int)=s from by omega] at this
  exact this
 have hpos: ∀r,good n (live a) r->0<=nth c r:=fun r hr=>by
  have:=hneg r hr.1 hr.2.1
  by_cases k:nth c r<0
  ·have:=this.1 k;rw[hr.2.2] at this;cases this
  ·omega
 have hkey: ∀r t:Int,0<=r->r<n->0<=t->t<n->0<=nth c r->nth c r=nth c t->wN a c r=wN a c t:=fun r t r0 r1 t0 t1 h0 h=>by
  have:=Hg (a:=a) (c:=c) (s:=r.toNat) (t:=t.toNat) (by omega) (by omega) (by rw[hfix,show ((r.toNat:Nat):Int)=r from by omega];exact h0) (by rw[hfix,show ((r.toNat:Nat):Int)=r from by omega,show ((t.toNat:Nat):Int)=t from by omega];exact h)
  rwa [show ((r.toNat:Nat):Int)=r from by omega,show ((t.toNat:Nat):Int)=t from by omega] at this
 have hacc: ∀r t:Int,0<=r->r<n->0<=t->t<n->0<=nth c r->nth c r=nth c t->nth a.2.1 r=nth a.2.1 t:=fun r t r0 r1 t0 t1 h0 h=>by
  have:=Lg a (s:=r.toNat) (t:=t.toNat) (by omega) (by omega) j (by rw[<-hj,show ((r.toNat:Nat):Int)=r from by omega];exact h0) (by rw[<-hj,show ((r.toNat:Nat):Int)=r from by omega,show ((t.toNat:Nat):Int)=t from by omega];exact h)
  rwa [show ((r.toNat:Nat):Int)=r from by omega,show ((t.toNat:Nat):Int)=t from by omega] at this
 have hsuccs: ∀r,good n (live a) r->lB a c (live a) r=(List.range 9).map fun k=>if 0<=ent a c r k then some (ent a c r k) else none:=fun r hr=>by
  refine List.map_congr_left fun k hk=>?_
  have hk:k<9:=List.mem_range.1 hk
  have hm:=V.mv hr.1 hr.2.1 hk
  unfold ent
  by_cases h:mv a r k<0
  ·rw[if_pos h,if_neg (fun h'=>by omega),if_neg (by omega)]
  ·rw[if_neg h]
   have:=hneg (mv a r k) (by omega) hm.2
   cases hl:nth (live a) (mv a r k) with
   | false =>
    have:=this.2 hl
    rw[if_neg (fun h'=>by cases h'.2),if_neg (by omega)]
   | true =>
    have: ¬nth c (mv a r k)<0:=fun h'=>by have:=this.1 h';rw[hl] at this;cases this
    rw[if_pos ⟨by omega,rfl⟩,if_pos (by omega)]
 have hent: ∀r t:Int,wN a c r=wN a c t-> ∀k,k<9->ent a c r k=ent a c t k:=fun r t h k hk=>by
  have h:(List.range 9).map (fun k=>ent a c r k)=(List.range 9).map (fun k=>ent a c t k):=by unfold wN at h;injection h
  have:=congrArg (fun l:List Int=>l[k]?) h
  simpa [hk] using this
 let nx:Int->List (Option Int):=fun x=>lB a c (live a) (rep c x)
 let acc:Int->Bool:=fun x=>nth a.2.1 (rep c x)
 let G:Int->Prop:=fun x=> ∃r,good n (live a) r/\nth c r=x
 have Gm: ∀x,G x->x∈c/\0<=x/\good n (live a) (rep c x):=by
  rintro x ⟨r,hr,rfl⟩
  have hm:nth c r∈c:=eH hr.1 (by rw[hcl];exact hr.2.1)
  obtain ⟨h0,h1,h2⟩:=Hl hm
  have hp:=hpos r hr
  refine ⟨hm,hp,h0,by omega,?_⟩
  have:=hneg (rep c (nth c r)) h0 (by omega)
  rw[h2] at this
  cases hl:nth (live a) (rep c (nth c r)) with
  | true=>rfl
  | false=>have:=this.2 hl;omega
 have hnx: ∀r,good n (live a) r->nx (nth c r)=lB a c (live a) r:=fun r hr=>by
  obtain ⟨hm,hp,hg⟩:=Gm _ ⟨r,hr,rfl⟩
  obtain ⟨h0,h1,h2⟩:=Hl hm
  show lB a c (live a) (rep c (nth c r))=_
  rw[hsuccs _ hg,hsuccs _ hr]
  refine List.map_congr_left fun k hk=>?_
  rw[hent _ _ (hkey _ _ hg.1 hg.2.1 hr.1 hr.2.1 (by rw[h2];exact hp) h2) k (List.mem_range.1 hk)]
 have hac: ∀r,good n (live a) r->acc (nth c r)=nth a.2.1 r:=fun r hr=>by
  obtain ⟨hm,hp,hg⟩:=Gm _ ⟨r,hr,rfl⟩
  obtain ⟨h0,h1,h2⟩:=Hl hm
  exact hacc _ _ hg.1 hg.2.1 hr.1 hr.2.1 (by rw[h2];exact hp) h2
 have hgn: ∀r,good n (live a) r-> ∀y,some y∈lB a c (live a) r->G y:=fun r hr y h=>by
  obtain ⟨k,hk,e⟩:=List.mem_map.1 h
  have hk:k<9:=List.mem_range.1 hk
  split at e
  ·rename_i hc
   exact ⟨mv a r k,⟨hc.1,(V.mv hr.1 hr.2.1 hk).2,hc.2⟩,ae e⟩
  ·cases e
 unfold eC bZ
 simp only[jj]
 rw[es,ei,Lc V hn];simp only[aa]
 rw[aG hst.1 (by omega)];simp only[aa]
 cases hs:nth (live a) a.1 with
 | false =>
  have:=(hneg a.1 hst.1 hst.2).2 hs
  rw[By V hll hs,if_pos (by simpa using this),G8]
  exact ⟨nothing,rfl,rfl,D0,wP,V.pos,.inl ⟨hs,rfl⟩⟩
 | true =>
  have hst':good n (live a) a.1:=⟨hst.1,hst.2,hs⟩
  have hp:=hpos _ hst'
  have H:NumOk nx (nth c a.1) G n:=⟨⟨a.1,hst',rfl⟩,fun x hx y hy=>hgn _ (Gm x hx).2.2 y hy,fun x hx=>by simp[nx,lB],fun l hd h=>DZ n l hd fun x hx=>by
   obtain ⟨r,hr,rfl⟩:=h x hx
   exact ⟨hpos r hr,hlt r hr.1 hr.2.1⟩⟩
  obtain ⟨N,hN,e1⟩:=Pn (acc:=acc) V hn hcl hll hs H hn hnx hac
  have hfirst: ∀x,G x->aX x c=some (rep c x):=fun x hx=>NM (by omega) (Gm x hx).1
  obtain ⟨N',hN',e2⟩:=Pm (most:=(c.length:Int)) (p2:=fun a0=>cf a0 (a.1,a.2.1,a.2.2) (fun a0=>aX a0 c)) (p3:=fun a0 a1=>cg a0 a1 (a.1,a.2.1,a.2.2) (fun a0=>aX a0 c) c) (acc:=acc) H hn (by omega) (fun x hx=>Pu hn (Gm x hx).2.1 (by
    obtain ⟨r,hr,rfl⟩:=hx
    exact hlt r hr.1 hr.2.1)) (fun x hx=>by
   show cf x (a.1,a.2.1,a.2.2) (fun a0=>aX a0 c)=_
   unfold cf
   simp only
   rw[hfirst x hx];simp only[aa]
   rw[V.acc (Gm x hx).2.2.1 (Gm x hx).2.2.2.1];rfl) (fun x k hx hk=>by
   obtain ⟨hm,hx0,hg⟩:=Gm x hx
   have hm':=V.mv hg.1 hg.2.1 hk
   refine ⟨0,?_⟩
   show cg x k (a.1,a.2.1,a.2.2) (fun a0=>aX a0 c) c=_
   unfold cg
   simp only
   rw[hfirst x hx];simp only[aa]
   rw[show dQ (a.1,a.2.1,a.2.2) (rep c x) k=some (mv a (rep c x) k) from Pf V hg.1 hg.2.1 hk];simp only[aa]
   show _=some (match nth (lB a c (live a) (rep c x)) (k:Int) with | some y=>(y,true) | none=>(0,false))
   rw[CM hk]
   by_cases h:mv a (rep c x) k<0
   ·rw[if_pos (by simpa using h),if_neg (fun h'=>by omega)]
   ·rw[if_neg (by simpa using h),aG (by omega) (by omega)];simp only[aa]
    have hng:=hneg (mv a (rep c x) k) (by omega) hm'.2
    cases hl:nth (live a) (mv a (rep c x) k) with
    | false =>
     have:=hng.2 hl
     rw[if_pos (by simpa using this),if_neg (fun h'=>by cases h'.2)]
    | true =>
     have: ¬nth c (mv a (rep c x) k)<0:=fun h'=>by have:=hng.1 h';rw[hl] at this;cases this
     rw[if_neg (by simpa using this),if_pos ⟨by omega,rfl⟩])
  obtain rfl:=CH hN hN'
  have v:=PB (acc:=acc) H hN
  refine ⟨_,by rw[e1];rfl,?_,Pv H hn hN,v.self,?_,.inr ⟨hs,j,c,nx,acc,N,hj,hnx,hac,hN,fun x _=>by simp[nx,lB],rfl⟩⟩
  rotate_left
  ·rw[v.len,hN.1];exact H.bound _ (jl N) (eW H.g0 H.gn N)
  rw[if_neg (by simp;omega)]
  exact (congrArg (fun x=>Option.bind x _) e2).trans rfl
theorem D2 (V:VA a n) (hn:n<=1000000): ∃r,eC a=some r/\bZ a=some r/\Data.sm r/\VA r r.2.1.length/\r.2.1.length<=n:=by
 obtain ⟨r,h1,h2,h3,h4,h5,-⟩:=wQ V hn
 exact ⟨r,h1,h2,h3,h4,h5⟩
theorem J6 (V:VA a n) (hn:n<=1000000): ∃r,eC a=some r/\bZ a=some r/\Data.sm r:=by
 obtain ⟨r,h1,h2,h3,-⟩:=D2 V hn
 exact ⟨r,h1,h2,h3⟩
end
end D
namespace D
open Go.RowKit
theorem yh {κ:Type} [DecidableEq κ] {nx:κ->List (Option κ)} {first:κ} {acc:κ->Bool} {most:Nat} : ∀(f i:Nat),(∀j,j<i->j<(bfS nx first j).length)->(bfS nx first i).length<=most->goM nx first acc most f i=((0,[],[]),false)\/ ∃N,bfE nx first N/\N<=most/\goM nx first acc most f i=((0,(bfS nx first N).map acc,bfR nx first N),true)
 | 0,i,_,_=>.inl rfl
 | f+1,i,h,hl=>by
  have hle:=ye h
  rw[goM]
  by_cases c:i<(bfS nx first i).length
  ·rw[if_pos c]
   by_cases d:(bfS nx first (i+1)).length>most
   ·rw[if_pos d];exact .inl rfl
   ·rw[if_neg d]
    exact yh f (i+1) (fun j hj=>by
     by_cases e:j=i
     ·subst e;exact c
     ·exact h j (by omega)) (by omega)
  ·rw[if_neg c]
   exact .inr ⟨i,⟨by omega,h⟩,by omega,by rw[List.take_of_length_le (by omega)]⟩
end D
namespace D
open Go.RowKit
theorem yi:Data.sm ((0,[],[]):AutT):=⟨trivial,⟨by decide,fun _ h=>by cases h⟩,by decide,fun _ h=>by cases h⟩
theorem Ae {e:List Tok} (he:e.length<=1048576): ∃r:AutT×Bool,m_s_CompileExpr e=some r/\fM e=some r/\Data.sm r.1:=by
 obtain ⟨⟨p,b⟩,e1,e2,h1,h2⟩:=kG he
 have h1:p.2.2.2.1.length=p.1.length:=h1
 have h2:p.1.length<=100000:=h2
 unfold m_s_CompileExpr fM
 rw[e1,e2];simp only[aa,jj]
 cases b with
 | false=>exact ⟨((0,[],[]),false),rfl,rfl,yi⟩
 | true =>
  have d1:=NI (p:=p) (most:=200) h1 (by omega) (by omega) (by omega)
  have d2:=QM (p:=p) (most:=200) h1 (by omega) (by omega) (by omega)
  have d1:cq p 200=_:=d1
  have d2:fJ p 200=_:=d2
  rw[d1,d2];simp only[if_true,aa]
  rcases yh (nx:=nxS p) (first:=1) (acc:=mF p) (most:=200) (200+2) 0 (fun j hj=>by omega) (by simp[bfS]) with e | ⟨N,hN,hNm,e⟩
  ·rw[e]
   exact ⟨((0,[],[]),false),rfl,rfl,yi⟩
  ·rw[e];simp only[if_true]
   have V:=BD (acc:=mF p) (rE p) hN
   obtain ⟨r,es,ei,hr⟩:=J6 V (by omega)
   unfold uu
   rw[es];simp only[aa,jj]
   rw[ei];simp only[aa,jj]
   by_cases c:(r.2.1.length:Int)>12
   ·have c':decide ((r.2.1.length:Int)>12)=true:=decide_eq_true c
    simp only[c',if_true,aa]
    exact ⟨((0,[],[]),false),rfl,rfl,yi⟩
   ·have c':decide ((r.2.1.length:Int)>12)=false:=decide_eq_false c
    simp only[c',Bool.false_eq_true,if_false,aa]
    exact ⟨(r,true),rfl,rfl,hr⟩
theorem ve {e:List Tok} (he:e.length<=1048576): ∃r:AutT×Bool,m_s_CompileExpr e=some r/\fM e=some r/\Data.sm r.1:=Ae he
end D
open Go.ChangeShapes Go.WideShapes Go.ChangeAt Go.RowKit
theorem own:ownKnob Tryz.prog.godebug=none:=by kernel_rfl
theorem laidOut:laidOutB Tryz.prog=true:=by kernel_rfl
theorem qK {H:Type} {enc:TypeId×Value->H} {P:Program} (hl:laidOutB P=true) {W W':World} (hb:Below W.heap.size W W') :
  ∀ {ts:List TypeId} {vs:List Value} {ds:List (DataW H)} {ps:List MemPlace},(∀t∈ts,P.readableRec t=true/\t<P.types.size)->
   DataW.TrodAll enc P W 0 (fun _=>true) true ts vs ds ps->(∀x∈ps,x.block<W.heap.size)->DataW.TrodAll enc P W' 0 (fun b=>decide (b<W.heap.size)) true ts vs ds ps
 | [],[],[],ps,_,h,_=>h
 | t::ts,v::vs,d::ds,ps,hr,⟨p,q,h1,h2,h3⟩,hlt=>by
  subst h3
  exact ⟨p,q,Below.trod hl (hr t (by simp)).1 (hr t (by simp)).2 h1 hb fun x hx=>hlt x (by simp[hx]),qK hl hb (fun t ht=>hr t (by simp[ht])) h2 fun x hx=>hlt x (by simp[hx]),rfl⟩
 | [],_::_,_,_,_,h,_=>h.elim
 | [],[],_::_,_,_,h,_=>h.elim
 | _::_,[],_,_,_,h,_=>h.elim
 | _::_,_::_,[],_,_,h,_=>h.elim
theorem J7 {H:Type} {enc:TypeId×Value->H} {f:Func} {s:ChangeSpec} {W W':World} {args:Array Value} {ds:List (DataW H)} {before:List MemPlace} (tb:TypeId)
  (hb:Tryz.prog.underlying tb=some .bool) (hr:f.resultTypes= #[tb]) (hp:(f.params.toList.all fun t=>Tryz.prog.readableRec t&&decide (t<Tryz.prog.types.size))=true) (hv:s.vars= [])
  (hW:DataW.Whole enc Tryz.prog f.params.toList s.vars false W args.toList ds [] before) (hres:(s.fn H (ds++ [])).results= [.lit (.bool true)]) (hargs:(s.fn H (ds++ [])).args=ds) (hvars:(s.fn H (ds++ [])).vars= [])
  (hbel:Below W.heap.size W W'):s.post enc Tryz.prog f false true false false W args (.bool true) W':=by
 obtain ⟨p,q,h1,h2,h3,h4,h5⟩:=hW
 have hW':DataW.Whole enc Tryz.prog f.params.toList s.vars false W args.toList ds [] before:=⟨p,q,h1,h2,h3,h4,h5⟩
 have hq:q= []:=by rw[hv] at h2;exact h2
 subst hq
 simp only[List.append_nil] at h3
 subst h3
 refine ⟨ds,[],before,[],before,[],hW',?_,?_,?_,hbel.frame _,fun h=>by cases h⟩
 ·rw[hres,hr]
  exact trodAll_mk1 (shut_bool hb true)
 ·rw[hargs]
  exact qK laidOut hbel (fun t ht=>by have:=List.all_eq_true.1 hp t ht;simpa using this) h1 fun x hx=>by simpa using hW'.lt x hx
 ·rw[hvars,hv];rfl
namespace D
open Go.RowKit
theorem mH (x y:AutT) (hx:Data.sm x):di x y=some (decide (x=y)):=by
 obtain ⟨-,⟨ha,-⟩,hn,hr⟩:=hx
 unfold di
 by_cases c1:x.1=y.1
 case neg=>rw[if_pos (by simpa using c1)];simp[Prod.ext_iff,c1]
 rw[if_neg (by simpa using c1)]
 by_cases c2:x.2.1.length=y.2.1.length
 case neg=>rw[if_pos (by simp;omega)];simp[Prod.ext_iff];exact fun _ e=>absurd (by rw[e]) c2
 rw[if_neg (by simp;omega)]
 by_cases c3:x.2.2.length=y.2.2.length
 case neg=>rw[if_pos (by simp;omega)];simp[Prod.ext_iff];exact fun _ _ e=>absurd (by rw[e]) c3
 rw[if_neg (by simp;omega)]
 rw[eqB (f:=ed x y) x.2.1 y.2.1 (by omega) c2 (fun i h h'=>by
  simp only[ed,dS h,if_true,aY h,aY h',aa,aC (show i<9223372036854775807 by omega)]
  by_cases c:x.2.1[i] =y.2.1[i] <;> simp[c]) (by simp only[ed,cH];rfl)]
 by_cases c4:x.2.1=y.2.1
 case neg=>rw[if_neg c4];simp[Prod.ext_iff,c4]
 rw[if_pos c4]
 rw[eqB (f:=eg x y) x.2.2 y.2.2 (by omega) c3 (fun i h h'=>by
  obtain ⟨r,e,hr'⟩:=BA x.2.2[i] y.2.2[i] ((hr _ (List.getElem_mem h)).1)
  simp only[eg,dS h,if_true,aY h,aY h',aa,aC (show i<9223372036854775807 by omega),e]
  by_cases c:x.2.2[i] =y.2.2[i]
  ·rw[if_neg (by simpa using hr'.2 c),if_pos c]
  ·rw[if_pos (by simpa using fun e=>c (hr'.1 e)),if_neg c]) (by simp only[eg,cH];rfl)]
 by_cases c5:x.2.2=y.2.2
 ·rw[if_pos c5];simp[Prod.ext_iff,c1,c4,c5]
 ·rw[if_neg c5];simp[Prod.ext_iff,c5]
theorem J8 (xs ys:List Bool) (hN:xs.length<=9223372036854775807):db xs ys=some (decide (xs=ys)):=
 eqL (f:=bV xs ys) xs ys hN (fun i h h'=>by
  simp only[bV,dS h,if_true,aY h,aY h',aa,aC (show i<9223372036854775807 by omega)]
  by_cases c:xs[i] =ys[i] <;> simp[c]) (by simp only[bV,cH];rfl)
theorem vf (x y:AutT) (hx:Data.sm x):dk x y=some (decide (x=y)):=by
 obtain ⟨-,⟨ha,-⟩,hn,hr⟩:=hx
 unfold dk
 by_cases c1:x.1=y.1
 case neg=>rw[if_neg (by simpa using c1)];simp[Prod.ext_iff,c1]
 rw[if_pos (by simpa using c1),J8 _ _ (by omega)];simp only[aa]
 by_cases c2:x.2.1=y.2.1
 case neg=>rw[if_neg (by simpa using c2)];simp[Prod.ext_iff,c2]
 rw[if_pos (by simpa using c2)]
 have:bE x.2.2 y.2.2 (fun a0 a1=>eQ a0 a1)=some (decide (x.2.2=y.2.2)):=
  eqL (f:=aU x.2.2 y.2.2 _) x.2.2 y.2.2 (by omega) (fun i h h'=>by
   simp only[aU,dS h,if_true,aY h,aY h',aa,aC (show i<9223372036854775807 by omega),eQ]
   rw[Ab _ _ (by have:x.2.2[i].length<=1048576:=(hr _ (List.getElem_mem h)).1;omega)];simp only[aa]
   by_cases c:x.2.2[i] =y.2.2[i] <;> simp[c]) (by simp only[aU,cH];rfl)
 rw[this]
 by_cases c3:x.2.2=y.2.2 <;> simp[Prod.ext_iff,c1,c2,c3]
end D
set_option synthInstance.maxSize 20000
set_option synthInstance.maxHeartbeats 2000000
namespace D
open Go.RowKit
abbrev QT:=Int×List Tok×Int
abbrev qL:=List AutT×List QT
theorem J9 (x y:List Tok) (hx:x.length<=1048576):iV x y=some (decide (x=y)):=by
 unfold iV
 exact eqL (f:=fV x y) x y (by omega) (fun i h h'=>by
  simp only[fV,dS h,if_true,aY h,aY h',aa,jj,aC (show i<9223372036854775807 by omega)]
  refine zW ?_;simp only[Bool.and_true,af,beq_iff_eq];exact Rg) (by simp only[fV,cH];rfl)
theorem Hm (x y:List Tok) (hx:x.length<=1048576):bX x y=some (decide (x=y)):=by
 unfold bX
 exact eqL (f:=bR x y) x y (by omega) (fun i h h'=>by
  simp only[bR,dS h,if_true,aY h,aY h',aa,jj,aC (show i<9223372036854775807 by omega)]
  refine zW ?_;simp only[Bool.and_true,af,beq_iff_eq];exact Rg) (by simp only[bR,cH];rfl)
theorem Ka (x y:List Tok) (hx:x.length<=1048576):iW x y=some (decide (x=y)):=by
 unfold iW
 rw[Hm x y hx];rfl
theorem qM (x y:qL) (hx:Data.sm x):eO x y=some (decide (x=y)):=by
 obtain ⟨⟨ha,hA⟩,hq,hQ⟩:=hx
 unfold eO
 by_cases h1:x.1.length=y.1.length
 ·by_cases h2:x.2.length=y.2.length
  ·rw[if_neg (by rw[h1];simp),if_neg (by rw[h2];simp)]
   rw[eqB (f:=dB x y) x.1 y.1 (by omega) h1 (fun i h h'=>by
    simp only[dB,dS h,if_true,aY h,aY h',aa,jj,mH x.1[i] y.1[i] (hA _ (List.getElem_mem h)),aC (show i<9223372036854775807 by omega)]
    exact zW (by simp)) (by simp only[dB,cH];rfl)]
   rw[eqB (f:=dC x y) x.2 y.2 (by omega) h2 (fun i h h'=>by
    have e:=J9 x.2[i].2.1 y.2[i].2.1 (hQ _ (List.getElem_mem h)).2.1.1
    simp only[dC,dS h,if_true,aY h,aY h',aa,e,aC (show i<9223372036854775807 by omega)]
    generalize x.2[i] =u;generalize y.2[i] =v
    by_cases e1:u.1=v.1 <;> by_cases e2:u.2.1=v.2.1 <;> by_cases e3:u.2.2=v.2.2 <;> simp[Prod.ext_iff,e1,e2,e3]) (by simp only[dC,cH];rfl)]
   by_cases e1:x.1=y.1 <;> by_cases e2:x.2=y.2 <;> simp[Prod.ext_iff,e1,e2]
  ·have:x.2≠y.2:=fun e=>h2 (by rw[e])
   rw[if_neg (by rw[h1];simp),if_pos (by simp;omega)];simp[Prod.ext_iff,this]
 ·have:x.1≠y.1:=fun e=>h1 (by rw[e])
  rw[if_pos (by simp;omega)];simp[Prod.ext_iff,this]
theorem D3 (x y:QT) (hx:Data.sm x):fc x y=some (decide (x=y)):=by
 unfold fc
 rw[Ka x.2.1 y.2.1 hx.2.1.1];simp only[aa]
 by_cases h1:x.1=y.1 <;> by_cases h2:x.2.1=y.2.1 <;> by_cases h3:x.2.2=y.2.2 <;> simp[Prod.ext_iff,h1,h2,h3]
theorem mI (x y:qL) (hx:Data.sm x):cE x y=some (decide (x=y)):=by
 obtain ⟨⟨ha,hA⟩,hq,hQ⟩:=hx
 unfold cE
 have e:aS x.1 y.1 (fun a0 a1=>dk a0 a1)=some (decide (x.1=y.1)):=
  eqL (f:=aL x.1 y.1 _) x.1 y.1 (by omega) (fun i h h'=>by
   simp only[aL,dS h,if_true,aY h,aY h',aa,jj,aC (show i<9223372036854775807 by omega),vf x.1[i] y.1[i] (hA _ (List.getElem_mem h))]
   exact zW (by simp)) (by simp only[aL,cH];rfl)
 have e':aQ x.2 y.2 (fun a0 a1=>fc a0 a1)=some (decide (x.2=y.2)):=
  eqL (f:=aJ x.2 y.2 _) x.2 y.2 (by omega) (fun i h h'=>by
   simp only[aJ,dS h,if_true,aY h,aY h',aa,jj,aC (show i<9223372036854775807 by omega),D3 x.2[i] y.2[i] (hQ _ (List.getElem_mem h))]
   exact zW (by simp)) (by simp only[aJ,cH];rfl)
 rw[e,e'];simp only[aa]
 by_cases h1:x.1=y.1 <;> by_cases h2:x.2=y.2 <;> simp[Prod.ext_iff,h1,h2]
theorem rG {R S:Type} {f g:S->Option (Out R S)} (Inv:Nat->S->Prop) (h: ∀i s,Inv i s->g s=f s/\ ∀s',f s=some (.nxt s')->Inv (i+1) s'): ∀(k i:Nat) (s:S),Inv i s->aF g k s=aF f k s
 | 0,_,_,_=>rfl
 | k+1,i,s,hI=>by
  obtain ⟨h1,h2⟩:=h i s hI
  rw[aF,aF,h1]
  cases e:f s with
  | none=>rfl
  | some o =>
   cases o with
   | nxt s'=>exact rG Inv h k (i+1) s' (h2 s' e)
   | brk s'=>rfl
   | ret r=>rfl
theorem CT {f g:Int->Option (Out Int Int)} (N:Nat) (hN:N<=1048576) (h: ∀i:Nat,i<N->f (i:Int)=some (.ret (i:Int))\/f (i:Int)=some (.nxt ((i+1:Nat):Int))) (he:f (N:Int)=some (.brk (N:Int))) (hfg: ∀i:Nat,i<=N->g (i:Int)=f (i:Int)) :
  ∃r:Int,a6 (aF f br 0) (fun r=>some r) (fun _=>some (-1))=some r/\a6 (aF g br 0) (fun r=>some r) (fun _=>some (-1))=some r/\(r= -1\/ ∃i:Nat,i<N/\r=(i:Int)):=by
 have hs:aF g br 0=aF f br 0:=rG (fun i s=>s=(i:Int)/\i<=N) (fun i s ⟨e,hi⟩=>by
  subst e
  refine ⟨hfg i hi,fun s' e=>?_⟩
  by_cases c:i<N
  ·rcases h i c with e2 | e2
   ·rw[e2] at e;cases e
   ·rw[e2] at e;cases e;exact ⟨rfl,c⟩
  ·obtain rfl:i=N:=by omega
   rw[he] at e;cases e) br 0 0 ⟨rfl,Nat.zero_le _⟩
 rw[hs]
 obtain ⟨o,e,ho⟩:=cM (f:=f) (fun i s=>s=(i:Int)) (fun o=>o= .brk (N:Int)\/ ∃i:Nat,i<N/\o= .ret (i:Int)) N (fun i s hi hs=>by
  subst hs
  by_cases h1:i<N
  ·rcases h i h1 with h2 | h2
   ·exact .inr ⟨_,h2,(fun s' e=>by cases e),.inr ⟨i,h1,rfl⟩⟩
   ·exact .inl ⟨h1,_,h2,rfl⟩
  ·obtain rfl:i=N:=by omega
   exact .inr ⟨_,he,(fun s' e=>by cases e),.inl rfl⟩) (s:=0) rfl (jC _ (by omega))
 rw[e]
 rcases ho with rfl | ⟨i,hi,rfl⟩
 ·exact ⟨-1,rfl,rfl,.inl rfl⟩
 ·exact ⟨i,rfl,rfl,.inr ⟨i,hi,rfl⟩⟩
theorem D4 (l:List AutT) (a:AutT) (hl:l.length<=1048576) (hs: ∀x∈l,Data.sm x) (ha:Data.sm a): ∃r:Int,df l a=some r/\aW l (fun a0=>je a0 a)=some r/\(r= -1\/ ∃i:Nat,i<l.length/\r=(i:Int)):=by
 unfold df aW
 have hf: ∀i (h:i<l.length),cP l a (i:Int)=if l[i] =a then some (.ret (i:Int)) else some (.nxt ((i+1:Nat):Int)):=fun i h=>by
  simp only[cP,dS h,if_true,aY h,aa,jj,mH l[i] a (hs _ (List.getElem_mem h)),aC (show i<9223372036854775807 by omega)]
  by_cases c:l[i] =a <;> simp[c]
 refine CT l.length hl (fun i h=>?_) (by simp only[cP,cH];rfl) (fun i hi=>?_)
 ·rw[hf i h];by_cases c:l[i] =a <;> simp[c]
 ·by_cases h:i<l.length
  ·rw[hf i h]
   simp only[bH,je,dS h,if_true,aY h,aa,jj,vf a l[i] ha,aC (show i<9223372036854775807 by omega)]
   by_cases c:l[i] =a
   ·simp[c]
   ·have: ¬a=l[i]:=fun e=>c e.symm
    simp[c,this]
  ·obtain rfl:i=l.length:=by omega
   simp only[cP,bH,cH];rfl
def BE (n i:Nat) (s:Int×List AutT×List QT):Prop:=s.1=(i:Int)/\i<=n/\s.2.2.length=i/\s.2.1.length<=i/\(∀a∈s.2.1,Data.sm a)/\ ∀q∈s.2.2,Data.sm q/\0<=q.2.2/\q.2.2<(s.2.1.length:Int)
theorem CU {qs:List QT} (hq:Data.sm qs) {i:Nat} {s:Int×List AutT×List QT} (hI:BE qs.length i s):iu qs s=bc qs s /\
  ((i<qs.length/\ ∃s',bc qs s=some (.nxt s')/\BE qs.length (i+1) s')\/ ∃o,bc qs s=some o/\(∀s',o≠ .nxt s')/\(o= .ret (([],[]),false)\/o= .brk s/\i=qs.length)):=by
 obtain ⟨hn,hs⟩:=gP hq
 obtain ⟨s1,A,Q⟩:=s
 obtain ⟨h1,h2,h3,h4,h5,h6⟩:=hI
 simp only at h1 h3 h4 h5 h6
 subst h1
 by_cases hi:i<qs.length
 ·have hqi:=hs _ (List.getElem_mem hi)
  obtain ⟨r,es,ei,hr⟩:=ve (e:=qs[i].2.1) hqi.2.1.1
  obtain ⟨k,ks,ki,hk⟩:=D4 A r.1 (by omega) h5 hr
  have a1:cm 56 A [r.1] =some (A++ [r.1]):=aI (by simp;omega)
  have a2: ∀y,cm 40 Q [y] =some (Q++ [y]):=fun y=>aI (by simp;omega)
  have a3:dJ qs[i].2.1=some qs[i].2.1:=by unfold dJ;rw[aI (by have:=hqi.2.1.1;simp;omega)];rfl
  have a4:eJ qs[i].2.1=some qs[i].2.1:=by unfold eJ;rw[aI (by have:=hqi.2.1.1;simp;omega)];rfl
  unfold iu bc
  simp only[dS hi,if_true,aY hi,aa,es,ei,N7,Qd,jj,ks,ki,a1,a2,a3,a4,aC (show i<9223372036854775807 by omega)]
  by_cases c1:r.2=true
  case neg =>
   simp only[c1,Bool.false_eq_true,if_false]
   exact ⟨by first | trivial | rfl,.inr ⟨_,rfl,(fun s' e=>by cases e),.inl rfl⟩⟩
  simp only[c1,if_true]
  by_cases c2:1<=qs[i].1/\qs[i].1<=99
  case neg =>
   simp only[c2,decide_false,Bool.false_eq_true,if_false]
   exact ⟨by first | trivial | rfl,.inr ⟨_,rfl,(fun s' e=>by cases e),.inl rfl⟩⟩
  simp only[c2,decide_true,if_true]
  have fin: ∃s':Int×List AutT×List QT,(∀(y:Option (Out (qL×Bool) (Int×List AutT×List QT))),True)/\(Option.bind (if decide (k<0) then some ((A.length:Int),A++ [r.1],Q) else some (k,A,Q)) fun s10:Int×List AutT×List QT=>(cm 40 s10.2.2 [(qs[i].1,qs[i].2.1,s10.1)]).bind fun z18=>some (.nxt (((i+1:Nat):Int),s10.2.1,z18)):Option (Out (qL×Bool) (Int×List AutT×List QT)))=some (.nxt s')/\BE qs.length (i+1) s':=by
   rcases hk with rfl | ⟨j,hj,rfl⟩
   ·refine ⟨(((i+1:Nat):Int),A++ [r.1],Q++ [(qs[i].1,qs[i].2.1,(A.length:Int))]),fun _=>trivial,?_,rfl,hi,by simp;omega,by simp;omega,fun a ha=>?_,fun q hq'=>?_⟩
    ·simp only[show decide ((-1:Int)<0)=true from rfl,if_true,aa,a2]
    ·simp only[List.mem_append,List.mem_singleton] at ha
     rcases ha with ha | rfl
     ·exact h5 a ha
     ·exact hr
    ·simp only[List.mem_append,List.mem_singleton] at hq'
     simp only[ah,List.length_singleton]
     rcases hq' with hq' | rfl
     ·obtain ⟨b1,b2,b3⟩:=h6 q hq'
      exact ⟨b1,b2,by omega⟩
     ·exact ⟨⟨trivial,hqi.2.1,trivial⟩,by simp,by simp;omega⟩
   ·refine ⟨(((i+1:Nat):Int),A,Q++ [(qs[i].1,qs[i].2.1,(j:Int))]),fun _=>trivial,?_,rfl,hi,by simp;omega,by simp only;omega,h5,fun q hq'=>?_⟩
    ·have:decide ((j:Int)<0)=false:=by simp
     simp only[this,Bool.false_eq_true,if_false,aa,a2]
    ·simp only[List.mem_append,List.mem_singleton] at hq'
     rcases hq' with hq' | rfl
     ·exact h6 q hq'
     ·exact ⟨⟨trivial,hqi.2.1,trivial⟩,by simp,by simp;omega⟩
  obtain ⟨s',-,e,hI'⟩:=fin
  by_cases c3:(i:Int)>0
  ·have hp:i - 1<qs.length:=by omega
   have hw:IntKind.i64.wrap ((i:Int) - 1)=((i - 1:Nat):Int):=by rw[qB (by omega)];omega
   simp only[c3,decide_true,if_true,hw,aY hp,aa]
   by_cases c4:qs[i - 1].1≥qs[i].1
   ·simp only[c4,decide_true,if_true]
    exact ⟨by first | trivial | rfl,.inr ⟨_,rfl,(fun s' e=>by cases e),.inl rfl⟩⟩
   ·simp only[c4,decide_false,Bool.false_eq_true,if_false]
    exact ⟨by first | trivial | rfl,.inl ⟨hi,s',e,hI'⟩⟩
  ·simp only[c3,decide_false,Bool.false_eq_true,if_false]
   exact ⟨by first | trivial | rfl,.inl ⟨hi,s',e,hI'⟩⟩
 ·obtain rfl:i=qs.length:=by omega
  unfold iu bc
  simp only[cH,Bool.false_eq_true,if_false]
  exact ⟨by first | trivial | rfl,.inr ⟨_,rfl,(fun s' e=>by cases e),.inr (by first | exact ⟨rfl,rfl⟩ | exact ⟨trivial,rfl⟩ | exact ⟨rfl,trivial⟩ | simp)⟩⟩
def PD (r:qL):Prop:=Data.sm r/\ ∀q∈r.2,0<=q.2.2/\q.2.2<(r.1.length:Int)
theorem qN {qs:List QT} (hq:Data.sm qs): ∃r:qL,∃b:Bool,bd qs=(if (qs.length:Int)>4 then some (([],[]),false) else some (r,b))/\jR qs=some (r,b&&decide ((qs.length:Int)<=4))/\PD r:=by
 have hn:=(gP hq).1
 have h0:BE qs.length 0 (0,[],[]):=⟨rfl,Nat.zero_le _,rfl,aB _,fun _ h=>(by cases h),fun _ h=>(by cases h)⟩
 have hs:aF (iu qs) br (0,[],[])=aF (bc qs) br (0,[],[]):=rG (BE qs.length) (fun i s hI=>by
  obtain ⟨e,h⟩:=CU hq hI
  refine ⟨e,fun s' e'=>?_⟩
  rcases h with ⟨_,s2,e2,hI2⟩ | ⟨o,e2,hne,-⟩
  ·rw[e2] at e';cases e';exact hI2
  ·rw[e2] at e';cases e';exact absurd rfl (hne s')) br 0 _ h0
 obtain ⟨o,e,ho⟩:=cM (f:=bc qs) (BE qs.length) (fun o=>o= .ret (([],[]),false)\/ ∃A Q,o= .brk ((qs.length:Int),A,Q)/\BE qs.length qs.length ((qs.length:Int),A,Q)) qs.length (fun i s hi hI=>by
  rcases (CU hq hI).2 with h | ⟨o,e,hne,h⟩
  ·exact .inl h
  ·refine .inr ⟨o,e,hne,?_⟩
   rcases h with h | ⟨h,rfl⟩
   ·exact .inl h
   ·obtain ⟨s1,A,Q⟩:=s
    obtain ⟨rfl,-⟩:=id hI
    exact .inr ⟨A,Q,h,hI⟩) h0 (jC _ (by omega))
 unfold bd jR
 rw[hs,e]
 rcases ho with rfl | ⟨A,Q,rfl,-,-,h3,h4,h5,h6⟩
 ·refine ⟨([],[]),false,?_,rfl,⟨⟨Nat.zero_le _,fun _ h=>(by cases h)⟩,Nat.zero_le _,fun _ h=>(by cases h)⟩,fun _ h=>(by cases h)⟩
  by_cases c:(qs.length:Int)>4 <;> simp[c,a6]
 ·simp only at h3 h4 h5 h6
  refine ⟨(A,Q),true,?_,by simp[a6],⟨⟨show A.length<=1048576 by omega,h5⟩,show Q.length<=1048576 by omega,fun q h=>(h6 q h).1⟩,fun q h=>(h6 q h).2⟩
  by_cases c:(qs.length:Int)>4 <;> simp[c,a6]
theorem l7 {r:qL} (hr:Data.sm r): ∃b,bL r=some b/\ba r=some b/\(b=true->PD r):=by
 obtain ⟨x,b,e1,e2,hx⟩:=qN hr.2
 unfold bL ba
 rw[e1,e2]
 by_cases c:(r.2.length:Int)>4
 ·have c': ¬(r.2.length:Int)<=4:=by omega
  exact ⟨false,by simp[c],by simp[c'],fun e=>by cases e⟩
 ·have c':(r.2.length:Int)<=4:=by omega
  cases b with
  | false=>exact ⟨false,by simp[c],by simp,fun e=>by cases e⟩
  | true =>
   simp only[c,if_false,aa,if_true,c',decide_true,Bool.and_true,jj,qM x r hx.1,mI x r hx.1]
   exact ⟨_,rfl,rfl,fun e=>by rw[<-of_decide_eq_true e];exact hx⟩
end D
namespace D
abbrev Pr:=Int×Int
def ltP (a b:Pr):Prop:=a.1<b.1\/a.1=b.1/\a.2<b.2
instance (a b:Pr):Decidable (ltP a b):=inferInstanceAs (Decidable (_\/_))
end D
namespace D
open Go.RowKit
theorem Hn {α R:Type} {f:Int->Option (Out R Int)} (l:List α) (b:α->Bool) (r:Nat->R) (hN:l.length<=9223372036854775807) (h: ∀i (hi:i<l.length),f (i:Int)=some (if b l[i] then .ret (r i) else .nxt ((i+1:Nat):Int))) (he:f (l.length:Int)=some (.brk (l.length:Int))) :
  (∃(i:Nat) (hi:i<l.length),b l[i] =true/\(∀j (hj:j<i),b (l[j]'(by omega))=false)/\aF f br 0=some (.ret (r i)))\/((∀x,x∈l->b x=false)/\aF f br 0=some (.brk (l.length:Int))):=by
 obtain ⟨o,e,hQ⟩:=cM (f:=f) (fun i s=>s=(i:Int)/\ ∀j (hj:j<l.length),j<i->b l[j] =false) (fun o=>(∃(i:Nat) (hi:i<l.length),b l[i] =true/\(∀j (hj:j<i),b (l[j]'(by omega))=false)/\o= .ret (r i))\/((∀x,x∈l->b x=false)/\o= .brk (l.length:Int))) l.length (fun i s hi hI=>by
  obtain ⟨rfl,hI⟩:=hI
  by_cases h1:i<l.length
  ·cases hb:b l[i] with
   | true=>exact .inr ⟨_,by rw[h i h1,hb,if_pos rfl],fun s' hh=>by simp at hh,.inl ⟨i,h1,hb,fun j hj=>hI j (by omega) hj,by simp⟩⟩
   | false=>exact .inl ⟨h1,_,by rw[h i h1,hb,if_neg (by simp)],rfl,fun j hj hji=>by
     by_cases c:j=i
     ·subst c;exact hb
     ·exact hI j hj (by omega)⟩
  ·obtain rfl:i=l.length:=by omega
   exact .inr ⟨_,he,fun s' hh=>by simp at hh,.inr ⟨fun x hx=>by
    obtain ⟨j,hj,rfl⟩:=List.getElem_of_mem hx
    exact hI j hj hj,rfl⟩⟩) (s:=0) ⟨rfl,fun j hj h0=>by omega⟩ (jC _ hN)
 rcases hQ with ⟨i,hi,h1,h2,rfl⟩ | ⟨h1,rfl⟩
 ·exact .inl ⟨i,hi,h1,h2,e⟩
 ·exact .inr ⟨h1,e⟩
section
variable {l m:List Pr} {p:Pr}
end
end D
set_option synthInstance.maxSize 20000
set_option synthInstance.maxHeartbeats 2000000
namespace D
open Go.RowKit
def prQ (q:QT):Int×List Tok:=(q.1,q.2.1)
theorem Ho {qs ps:List QT} (h:qs.map prQ=ps.map prQ) (i:Int):(bj qs i=none/\bj ps i=none)\/ ∃x y,bj qs i=some x/\bj ps i=some y/\x.1=y.1/\x.2.1=y.2.1:=by
 have hl:qs.length=ps.length:=by
  have:=congrArg List.length h
  simpa using this
 by_cases c:0<=i/\i<qs.length
 ·refine .inr ⟨nth qs i,nth ps i,aG c.1 c.2,aG c.1 (by omega),?_⟩
  obtain ⟨k,rfl⟩: ∃k:Nat,i=(k:Int):=⟨i.toNat,by omega⟩
  rw[bN (by omega),bN (by omega)]
  have h1:(qs.map prQ)[k]'(by simp;omega)=(ps.map prQ)[k]'(by simp;omega):=by simp only[h]
  simp only[List.getElem_map,prQ,Prod.mk.injEq] at h1
  exact h1
 ·have:bj qs i=none:=by
   unfold bj
   split
   ·rename_i h0
    rw[List.getElem?_eq_none];omega
   ·rfl
  have h2:bj ps i=none:=by
   unfold bj
   split
   ·rename_i h0
    rw[List.getElem?_eq_none];omega
   ·rfl
  exact .inl ⟨this,h2⟩
theorem Hq {qs ps:List QT} (h:qs.map prQ=ps.map prQ):bc qs=bc ps:=by
 have hl:qs.length=ps.length:=by
  have:=congrArg List.length h
  simpa using this
 funext s
 unfold bc
 rw[hl]
 rcases Ho h s.1 with ⟨e1,e2⟩ | ⟨x,y,e1,e2,k1,k2⟩
 ·simp only[e1,e2,Option.bind_none]
 ·rcases Ho h (IntKind.i64.wrap (s.1 - 1)) with ⟨f1,f2⟩ | ⟨u,v,f1,f2,j1,j2⟩
  ·simp only[e1,e2,f1,f2,aa,Option.bind_none,k1,k2]
  ·simp only[e1,e2,f1,f2,aa,k1,k2,j1,j2]
theorem CV {qs ps:List QT} (h:qs.map prQ=ps.map prQ):bd qs=bd ps:=by
 have hl:qs.length=ps.length:=by
  have:=congrArg List.length h
  simpa using this
 unfold bd
 rw[Hq h,hl]
theorem NN (l:List AutT) (a:AutT) (hl:l.length<=1048576) (hs: ∀x∈l,Data.sm x):(df l a=some (-1)/\ ¬a∈l)\/ ∃(i:Nat) (hi:i<l.length),df l a=some (i:Int)/\l[i] =a:=by
 have hf:=Hn (f:=cP l a) l (fun u=>decide (u=a)) (fun i=>(i:Int)) (by omega) (fun i h=>by
  simp only[cP,dS h,if_true,aY h,aa,jj,mH l[i] a (hs _ (List.getElem_mem h)),aC (show i<9223372036854775807 by omega)]
  by_cases c:l[i] =a <;> simp[c]) (by simp only[cP,cH];rfl)
 unfold df
 rcases hf with ⟨i,hi,h1,-,e⟩ | ⟨h1,e⟩
 ·rw[dx e]
  exact .inr ⟨i,hi,rfl,of_decide_eq_true h1⟩
 ·rw[aE e]
  exact .inl ⟨rfl,fun h=>by simpa using h1 a h⟩
structure BIn (qs:List QT) (i:Nat) (A:List AutT) (Q:List QT):Prop where
 le:i<=qs.length
 pr:Q.map prQ=(qs.take i).map prQ
 len:A.length<=i
 sm: ∀a∈A,Data.sm a
 at_: ∀q∈Q,∃(j:Nat) (hj:j<A.length),q.2.2=(j:Int)/\m_s_CompileExpr q.2.1=some (A[j],true)
 nd:A.Nodup
 cmp: ∀a∈A,∃e:List Tok,e.length<=1048576/\m_s_CompileExpr e=some (a,true)
 rng: ∀j (hj:j<qs.length),j<i->1<=qs[j].1/\qs[j].1<=99
 asc: ∀j (hj:j+1<qs.length),j+1<i->qs[j].1<qs[j+1].1
theorem Kb {qs:List QT} (hq:Data.sm qs) {i:Nat} {A:List AutT} {Q:List QT} (hB:BIn qs i A Q) (hi:i<qs.length) :
  bc qs ((i:Int),A,Q)=some (.ret (([],[]),false))\/ ∃A' Q',bc qs ((i:Int),A,Q)=some (.nxt (((i+1:Nat):Int),A',Q'))/\BIn qs (i+1) A' Q':=by
 obtain ⟨hn,hs⟩:=gP hq
 have hqi:=hs _ (List.getElem_mem hi)
 have hQl:Q.length=i:=by
  have:=congrArg List.length hB.pr
  simp only[List.length_map,aA] at this
  omega
 have hAl:=hB.len
 obtain ⟨r,es,-,hr⟩:=ve (e:=qs[i].2.1) hqi.2.1.1
 have a1:cm 56 A [r.1] =some (A++ [r.1]):=aI (by simp;omega)
 have a2: ∀y,cm 40 Q [y] =some (Q++ [y]):=fun y=>aI (by simp;omega)
 have a3:dJ qs[i].2.1=some qs[i].2.1:=by unfold dJ;rw[aI (by have:=hqi.2.1.1;simp;omega)];rfl
 have hpr: ∀k:Int,(Q++ [(qs[i].1,qs[i].2.1,k)]).map prQ=(qs.take (i+1)).map prQ:=fun k=>by
  rw[aK,hB.pr,List.take_succ_eq_append_getElem hi,aK];rfl
 have main:r.2=true->(1<=qs[i].1/\qs[i].1<=99)->(∀h:0<i,qs[i - 1].1<qs[i].1)-> ∃k A',(k= -1/\A'=A++ [r.1] \/ ∃j:Nat,k=(j:Int)/\A'=A)/\df A r.1=some k/\BIn qs (i+1) A' (Q++ [(qs[i].1,qs[i].2.1,if k<0 then (A.length:Int) else k)]):=fun c1 c2 c3=>by
  have hrt:m_s_CompileExpr qs[i].2.1=some (r.1,true):=by rw[es,<-c1]
  have hrng: ∀j (hj:j<qs.length),j<i+1->1<=qs[j].1/\qs[j].1<=99:=fun j hj hji=>by
   by_cases e:j=i
   ·subst e;exact c2
   ·exact hB.rng j hj (by omega)
  have hasc: ∀j (hj:j+1<qs.length),j+1<i+1->qs[j].1<qs[j+1].1:=fun j hj hji=>by
   by_cases e:j+1=i
   ·subst e
    exact c3 (by omega)
   ·exact hB.asc j hj (by omega)
  rcases NN A r.1 (by omega) hB.sm with ⟨e,hno⟩ | ⟨j,hj,e,hja⟩
  ·refine ⟨-1,A++ [r.1],.inl ⟨rfl,rfl⟩,e,by omega,hpr _,by simp;omega,fun a ha=>?_,fun q hq'=>?_,?_,fun a ha=>?_,hrng,hasc⟩
   ·rcases aD ha with ha | ha
    ·exact hB.sm a ha
    ·rw[ak ha];exact hr
   ·rcases aD hq' with hq' | hq'
    ·obtain ⟨j,hj,k1,k2⟩:=hB.at_ q hq'
     exact ⟨j,by simp;omega,k1,by rw[List.getElem_append_left hj];exact k2⟩
    ·rw[ak hq']
     exact ⟨A.length,by simp,rfl,by simpa using hrt⟩
   ·rw[List.nodup_append]
    refine ⟨hB.nd,by simp,fun a ha b hb=>?_⟩
    rw[ak hb]
    rintro rfl;exact hno ha
   ·rcases aD ha with ha | ha
    ·exact hB.cmp a ha
    ·rw[ak ha];exact ⟨_,hqi.2.1.1,hrt⟩
  ·refine ⟨(j:Int),A,.inr ⟨j,rfl,rfl⟩,e,by omega,hpr _,by omega,hB.sm,fun q hq'=>?_,hB.nd,hB.cmp,hrng,hasc⟩
   rcases aD hq' with hq' | hq'
   ·exact hB.at_ q hq'
   ·rw[ak hq']
    exact ⟨j,hj,(by show (if (j:Int)<0 then (A.length:Int) else (j:Int))=(j:Int);exact if_neg (by omega)),by rw[hja];exact hrt⟩
 have fin:r.2=true->(1<=qs[i].1/\qs[i].1<=99)->(∀h:0<i,qs[i - 1].1<qs[i].1)-> ∃A' Q',(((df A r.1).bind fun r22=>Option.bind ((if decide (r22<0) then ((cm 56 A ([r.1])).bind fun z14=>some ((A.length:Int),z14,Q)) else (some (r22,A,Q)):Option (Int×List AutT×List QT))) (fun s9=>(cm 40 s9.2.2 ([(qs[i].1,qs[i].2.1,s9.1)])).bind fun z15=>some (Out.nxt (((i+1:Nat):Int),s9.2.1,z15)))):Option (Out (qL×Bool) (Int×List AutT×List QT)))=some (.nxt (((i+1:Nat):Int),A',Q'))/\BIn qs (i+1) A' Q':=fun c1 c2 c3=>by
  obtain ⟨k,A',hk,e,hB'⟩:=main c1 c2 c3
  refine ⟨A',_,?_,hB'⟩
  rw[e];simp only[aa]
  rcases hk with ⟨rfl,rfl⟩ | ⟨j,rfl,rfl⟩
  ·rw[if_pos (show decide ((-1:Int)<0)=true from rfl),a1,if_pos (show (-1:Int)<0 from by decide)];simp only[aa,a2]
  ·have h0: ¬(j:Int)<0:=by omega
   rw[if_neg (show¬decide ((j:Int)<0)=true by simpa using h0),if_neg h0];simp only[aa,a2]
 unfold bc
 simp only[dS hi,if_true,aY hi,aa,es,N7,jj,a3,aC (show i<9223372036854775807 by omega)]
 by_cases c1:r.2=true
 case neg =>
  simp only[c1,Bool.false_eq_true,if_false];exact .inl trivial
 simp only[c1,if_true]
 by_cases c2:1<=qs[i].1/\qs[i].1<=99
 case neg =>
  simp only[c2,decide_false,Bool.false_eq_true,if_false];exact .inl trivial
 simp only[c2,and_self,decide_true,if_true]
 by_cases c3:(i:Int)>0
 ·have hp:i - 1<qs.length:=by omega
  have hw:IntKind.i64.wrap ((i:Int) - 1)=((i - 1:Nat):Int):=by rw[qB (by omega)];omega
  simp only[c3,decide_true,if_true,hw,aY hp,aa]
  by_cases c4:qs[i - 1].1≥qs[i].1
  ·simp only[c4,decide_true,if_true];exact .inl (by first | trivial | rfl | simp)
  ·simp only[c4,decide_false,Bool.false_eq_true,if_false]
   exact .inr (fin c1 c2 fun _=>by omega)
 ·simp only[c3,decide_false,Bool.false_eq_true,if_false]
  exact .inr (fin c1 c2 fun h=>absurd (by omega) c3)
theorem mJ {qs:List QT} (hq:Data.sm qs) {x:qL} (e:bd qs=some (x,true)):qs.length<=4/\BIn qs qs.length x.1 x.2:=by
 unfold bd at e
 by_cases c:(qs.length:Int)>4
 ·rw[if_pos (decide_eq_true c)] at e
  simp at e
 rw[if_neg (by simpa using c)] at e
 refine ⟨by omega,?_⟩
 obtain ⟨o,e2,ho⟩:=cM (f:=bc qs) (fun i s=> ∃A Q,s=((i:Int),A,Q)/\BIn qs i A Q) (fun o=>o= .ret (([],[]),false)\/ ∃A Q,o= .brk ((qs.length:Int),A,Q)/\BIn qs qs.length A Q) qs.length (fun i s hi hI=>by
  obtain ⟨A,Q,rfl,hB⟩:=hI
  by_cases h:i<qs.length
  ·rcases Kb hq hB h with e | ⟨A',Q',e,hB'⟩
   ·exact .inr ⟨_,e,(fun s' h=>by simp at h),.inl rfl⟩
   ·exact .inl ⟨h,_,e,A',Q',rfl,hB'⟩
  ·obtain rfl:i=qs.length:=by have:=hB.le;omega
   refine .inr ⟨.brk ((qs.length:Int),A,Q),?_,(fun s' h=>by simp at h),.inr ⟨A,Q,rfl,hB⟩⟩
   unfold bc
   simp only[cH,Bool.false_eq_true,if_false]) (s:=(0,[],[])) ⟨[],[],rfl,Nat.zero_le _,rfl,aB _,(fun _ h=>by cases h),(fun _ h=>by cases h),List.nodup_nil,(fun _ h=>by cases h),(fun j hj h=>absurd h (Nat.not_lt_zero _)),(fun j hj h=>absurd h (Nat.not_lt_zero _))⟩ (jC _ (by omega))
 rw[e2] at e
 rcases ho with rfl | ⟨A,Q,rfl,hB⟩
 ·simp[a6] at e
 ·simp only[a6,Option.some.injEq,Prod.mk.injEq] at e
  obtain ⟨rfl,-⟩:=e
  exact hB
end D
set_option synthInstance.maxSize 20000
set_option synthInstance.maxHeartbeats 2000000
namespace D
open Go.RowKit
theorem NO (a:AutT) (ha:Data.sm a):mo a=some a:=by
 obtain ⟨-,⟨hb,-⟩,hn,hr⟩:=ha
 unfold mo
 rw[aI (by simp;omega)];simp only[aa,List.nil_append]
 have:=bg (f:=gA a) (fun i=>((i:Int),a.1,a.2.1,a.2.2.take i)) a.2.2.length (fun i hi=>by
  unfold gA
  have h1:cm 8 ([] :List Int) a.2.2[i] =some a.2.2[i]:=by rw[aI (by have:a.2.2[i].length<=1048576:=(hr _ (List.getElem_mem hi)).1;simp;omega)];rfl
  simp only[dS hi,if_true,aY hi,aa,h1,aC (show i<9223372036854775807 by omega)]
  rw[aI (by simp;omega)]
  simp only[aa]
  rw[List.take_succ_eq_append_getElem hi]) (by
  unfold gA
  simp only[cH,Bool.false_eq_true,if_false]) (jC _ (by omega))
 have e:aF (gA a) br (0,a.1,a.2.1,[])=_:=this
 rw[e]
 simp only[a6,List.take_length]
theorem Hr (a:AutT) (ha:Data.sm a):eE a=some a:=by
 obtain ⟨-,⟨hb,-⟩,hn,hr⟩:=ha
 unfold eE
 rw[aI (by simp;omega)];simp only[aa,List.nil_append]
 have:=bg (f:=c9 a) (fun i=>((i:Int),a.1,a.2.1,a.2.2.take i)) a.2.2.length (fun i hi=>by
  unfold c9 nr
  have h1:cm 8 ([] :List Int) a.2.2[i] =some a.2.2[i]:=by rw[aI (by have:a.2.2[i].length<=1048576:=(hr _ (List.getElem_mem hi)).1;simp;omega)];rfl
  simp only[dS hi,if_true,aY hi,aa,h1,aC (show i<9223372036854775807 by omega)]
  rw[aI (by simp;omega)]
  simp only[aa]
  rw[List.take_succ_eq_append_getElem hi]) (by
  unfold c9
  simp only[cH,Bool.false_eq_true,if_false]) (jC _ (by omega))
 have e:aF (c9 a) br (0,a.1,a.2.1,[])=_:=this
 rw[e]
 simp only[a6,List.take_length]
end D
set_option synthInstance.maxSize 20000
set_option synthInstance.maxHeartbeats 2000000
namespace D
open Go.RowKit
theorem vh (r:qL) (id:Int) (hl:r.2.length<=1048576): ∃k:Int,eP r id=some k/\cL r id=some k/\(k= -1\/ ∃i:Nat,i<r.2.length/\k=(i:Int)):=by
 unfold eP cL bK
 have hf: ∀i (h:i<r.2.length),b7 r id (i:Int)=if r.2[i].1=id then some (.ret (i:Int)) else some (.nxt ((i+1:Nat):Int)):=fun i h=>by
  simp only[b7,dS h,if_true,aY h,aa,aC (show i<9223372036854775807 by omega)]
  by_cases c:r.2[i].1=id <;> simp[c]
 obtain ⟨k,e1,e2,h⟩:=CT (f:=b7 r id) (g:=a7 r.2 fun a0=>iw a0 id) r.2.length hl (fun i h=>by
  rw[hf i h];by_cases c:r.2[i].1=id <;> simp[c]) (by simp only[b7,cH];rfl) (fun i hi=>by
  by_cases h:i<r.2.length
  ·rw[hf i h]
   simp only[a7,iw,dS h,if_true,aY h,aa,aC (show i<9223372036854775807 by omega)]
   by_cases c:r.2[i].1=id <;> simp[c]
  ·obtain rfl:i=r.2.length:=by omega
   simp only[b7,a7,cH];rfl)
 refine ⟨k,e1,?_,h⟩
 rw[e2];rfl
end D
end Go.Proofs.YtbhafdfiplkacaaGreat
