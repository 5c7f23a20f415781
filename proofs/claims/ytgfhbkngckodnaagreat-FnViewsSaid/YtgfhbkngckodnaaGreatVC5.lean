/- FnViews: for every input the law returns true and changes nothing that was there. Part 6 of 7. -/
import Derived.Test.YtgfhbkngckodnaaGreatVC4
set_option linter.unusedVariables false
set_option linter.unusedSimpArgs false
set_option linter.unnecessarySimpa false
set_option linter.unusedSectionVars false
set_option maxRecDepth 1000000
namespace Go.Proofs.YtgfhbkngckodnaaGreat
namespace R
open Go.RowKit
open D
theorem j8:FOk Tryz.prog 71 iB:=fk [] trivial Tryz.func71 .no
theorem lU:FOk Tryz.prog 56 iT:=fk [(71,iB)] ⟨j8,trivial⟩ Tryz.func56 .no
theorem kX:FOk Tryz.prog 89 je:=fk [] trivial Tryz.func89 .no
theorem vj:FOk Tryz.prog 80 qv:=fk [(89,je)] ⟨kX,trivial⟩ Tryz.func80 .no
theorem fR:FOk Tryz.prog 57 dY:=fk [(80,qv),(89,je)] ⟨vj,kX,trivial⟩ Tryz.func57 (.two .no (.two .no (.two (.two .no (.loop [.slot 14 (.num .i64)] .no)) (.two (.two .no (.loop [.slot 25 (.num .i64)] .no)) .no))))
theorem gP:FOk Tryz.prog 103 di:=fk [] trivial Tryz.func103 (.two .no (.two (.two .no (.loop [.slot 8 (.num .i64)] .no)) .no))
theorem tu:FOk Tryz.prog 104 mO:=fk [] trivial Tryz.func104 .no
theorem pL:FOk Tryz.prog 81 lR:=fk [(103,di),(104,mO)] ⟨gP,tu,trivial⟩ Tryz.func81 .no
theorem iJ:FOk Tryz.prog 82 dZ:=LX (n:=3) (z:=(⟨.int .i64 0,rfl⟩,⟨.int .i64 0,rfl⟩,⟨.int .i64 0,rfl⟩,⟨.int .i64 0,rfl⟩)) rfl rfl (fok (V:=⟨tt,[(105,⟨[],[],none,some (50,0)⟩)],[(12,.raw),(34,.raw),(43,.raw),(50,.raw),(53,.raw),(60,.str),(66,.raw),(73,.raw),(76,.raw),(80,.raw),(86,.raw),(91,.raw)],95,[]⟩) CJ ⟨NO (Pa (fn:=Tryz.f105) (tS:=25) (tR:=4) (E:=50) Tryz.func105 (by kernel_rfl) (by kernel_rfl) (by kernel_rfl) (by kernel_rfl) Tryz.underlying25 (TTok.get CJ rfl).ti),trivial⟩ mixed Tryz.func82 rfl rfl (enters_of Tryz.func82 (by kernel_rfl) rfl) rfl (bf rfl) rfl .no (fun d=>by kernel_rfl))
theorem nQ:FOk Tryz.prog 45 kz:=fk [(56,iT),(57,dY),(80,qv),(81,lR),(82,dZ)] ⟨lU,fR,vj,pL,iJ,trivial⟩ Tryz.func45 (.two .no (.two .no (.two .no (.two .no (.two (.loop [.slot 7 (.num .i64)] .no) .no)))))
theorem iK:FOk Tryz.prog 83 ee:=LS (n:=3) (z:=(⟨.int .i64 0,rfl⟩,⟨.int .i64 0,rfl⟩,⟨.int .i64 0,rfl⟩,⟨.int .i64 0,rfl⟩)) rfl rfl (fok (V:=⟨tt,[],[(13,.raw),(22,.raw),(25,.raw),(31,.raw)],33,[]⟩) CJ trivial mixed Tryz.func83 rfl rfl (enters_of Tryz.func83 (by kernel_rfl) rfl) rfl (bf rfl) rfl .no (fun d=>by kernel_rfl))
theorem nR:FOk Tryz.prog 48 kA:=fk [(56,iT),(57,dY),(81,lR),(83,ee)] ⟨lU,fR,pL,iK,trivial⟩ Tryz.func48 .no
theorem iV:FOk Tryz.prog 90 eF:=fk [] trivial Tryz.func90 (.two .no (.two (.two .no (.loop [.slot 8 (.num .i64)] .no)) .no))
theorem hO:FOk Tryz.prog 58 dD:=fk [(90,eF)] ⟨iV,trivial⟩ Tryz.func58 .no
theorem ug:FOk Tryz.prog 25 nI:=fk [(45,kz),(48,kA),(56,iT),(57,dY),(58,dD)] ⟨nQ,nR,lU,fR,hO,trivial⟩ Tryz.func25 (.two .no (.two .no (.two .no (.two (.two .no (.loop [.slot 25 (.num .i64),.box 6 [(.own 3 y3),(.own 50 y50)]] (.two .no (.two .no (.two (.two .no (.two .no (.join [.slot 9 .boo,.box 6 [(.own 3 y3),(.own 50 y50)]] .no .no))) .no))))) .no))))
theorem Fp:FOk Tryz.prog 97 yz:=fk [] trivial Tryz.func97 .no
theorem Im:FOk Tryz.prog 72 BK:=fk [(97,yz)] ⟨Fp,trivial⟩ Tryz.func72 (.two .no (.two .no (.two (.two .no (.loop [.slot 13 (.num .i64),.row 3 103 Pn] .no)) .no)))
end R
namespace R
open Go.RowKit
open D
theorem oA:FOk Tryz.prog 73 lS:=fk [] trivial Tryz.func73 (.two .no (.two .no (.two (.two .no (.loop [.slot 3 (.own 3 y3),.slot 4 (.num .i64)] (.two .no (.join [.slot 3 (.own 3 y3)] .no .no)))) .no)))
theorem yD:FOk Tryz.prog 112 qU:=fk [(89,je)] ⟨kX,trivial⟩ Tryz.func112 .no
theorem j9:FOk Tryz.prog 99 gJ:=fk [(112,qU)] ⟨yD,trivial⟩ Tryz.func99 .no
theorem tv:FOk Tryz.prog 98 ox:=fk [(99,gJ)] ⟨j9,trivial⟩ Tryz.func98 (.two .no (.two .no (.two (.two .no (.loop [.slot 7 (.num .i64),.slot 8 (.num .i64)] .no)) .no)))
theorem Fq:FOk Tryz.prog 74 yA:=fk [(73,lS),(98,ox),(99,gJ)] ⟨oA,tv,j9,trivial⟩ Tryz.func74 (.two .no (.two .no (.two (.two .no (.loop [.slot 9 (.num .i64),.slot 18 (.num .i64)] (.two .no (.two .no (.two (.two .no (.two .no (.loop [.slot 9 (.num .i64),.slot 28 (.num .i64)] (.two .no (.two .no (.join [.slot 9 (.num .i64)] .no .no)))))) .no))))) .no)))
theorem l9:FOk Tryz.prog 37 iI:=fk [(72,BK),(73,lS),(74,yA)] ⟨Im,oA,Fq,trivial⟩ Tryz.func37 (.two .no (.two .no (.two .no (.two (.two .no (.loop [.slot 26 (.num .i64),.row 6 24 y24] (.two .no (.two .no (.two (.two .no (.two .no (.loop [.slot 9 (.num .i64),.row 6 24 y24] (.two .no (.two (.two .no (.loop [.slot 38 (.num .i64),.row 6 24 y24] (.two .no (.two .no (.two (.two .no (.two .no (.loop [.slot 55 (.num .i64),.row 6 24 y24] .no))) .no))))) .no))))) .no))))) .no))))
theorem nC:FOk Tryz.prog 95 iM:=fk [(89,je)] ⟨kX,trivial⟩ Tryz.func95 (.two .no (.two .no (.two .no (.two (.two .no (.loop [.slot 32 (.num .i64)] (.two .no (.two .no (.two (.two .no (.two (.two .no (.loop [.slot 38 (.num .i64)] .no)) .no)) .no))))) .no))))
theorem CT:FOk Tryz.prog 69 u9:=fk [(57,dY),(89,je),(95,iM)] ⟨fR,kX,nC,trivial⟩ Tryz.func69 (.two .no (.two (.two .no (.loop [.slot 11 (.num .i64)] .no)) .no))
theorem oB:FOk Tryz.prog 123 jE:=fk [] trivial Tryz.func123 .no
theorem oC:FOk Tryz.prog 124 jF:=fk [] trivial Tryz.func124 .no
theorem qx:FOk Tryz.prog 111 kT:=fk [(123,jE),(124,jF)] ⟨oB,oC,trivial⟩ Tryz.func111 .no
theorem jM:FOk Tryz.prog 96 fl:=fk [(111,kT)] ⟨qx,trivial⟩ Tryz.func96 (.two .no (.two .no (.two .no (.two .no (.two .no (.two .no (.two (.loop [.slot 8 (.num .i64),.row 7 3 (.int .i64)] .no) .no))))))) (an:=[(44,.bool)])
theorem CU:FOk Tryz.prog 70 vc:=fk [(96,fl)] ⟨jM,trivial⟩ Tryz.func70 (.two .no (.two .no (.two .no (.two (.two .no (.loop [.slot 6 (.own 3 (.int .i64)),.slot 18 (.num .i64),.row 5 3 y3] .no)) (.two (.loop [.slot 6 (.own 3 (.int .i64)),.row 5 3 y3] (.two .no (.two (.two .no (.loop [.slot 6 (.own 3 y3),.slot 42 (.num .i64),.row 5 3 y3] (.two .no (.two .no (.two (.at [.slot 6 (.own 3 y3),.row 5 3 y3] .no) .no))))) .no))) .no))))) (an:=[(34,.bool)])
theorem kY:FOk Tryz.prog 35 gY:=Qq (V:=⟨tt,[(37,iI),(69,u9),(70,vc)],[(1000000,.raw)],26,[]⟩) CJ ⟨l9,CT,CU,trivial⟩ mixed Tryz.func35 rfl rfl (enters_of Tryz.func35 (by kernel_rfl) rfl) ⟨rfl,rfl⟩ (bf rfl) rfl .no (fun d=>by kernel_rfl)
theorem kZ:FOk Tryz.prog 36 gZ:=fk [(71,iB)] ⟨j8,trivial⟩ Tryz.func36 (.two .no (.two .no (.two (.two .no (.loop [.slot 16 (.num .i64),.box 3 [(.num .i64),(.own 4 y4),(.own 24 y24)]] .no)) .no)))
theorem iW:FOk Tryz.prog 10 gK:=fk [(35,gY),(36,gZ),(37,iI)] ⟨kY,kZ,l9,trivial⟩ Tryz.func10 (.two .no (.two .no (.two .no (.two .no (.two (.two .no (.loop [.slot 33 (.num .i64),.par 21 [] 3 y3] (.two .no (.two .no (.two (.two .no (.two .no (.loop [.slot 40 (.num .i64),.par 21 [] 3 y3] (.two .no (.two .no (.two (.at [.par 21 [] 3 y3] .no) .no)))))) .no))))) .no)))))
theorem iX:FOk Tryz.prog 63 eG:=fk [] trivial Tryz.func63 (.two .no (.two .no (.two (.two .no (.loop [.slot 13 (.num .i64)] .no)) .no)))
end R
namespace R
open Go.RowKit
open D
theorem cZ:FOk Tryz.prog 64 bB:=fk [] trivial Tryz.func64 (.two .no (.two .no (.two (.two .no (.loop [.slot 17 (.num .i64)] .no)) .no)))
theorem fA:FOk Tryz.prog 31 cR:=fk [] trivial Tryz.func31 (.two .no (.two .no (.two (.two .no (.loop [.slot 13 (.num .i64)] .no)) .no)))
theorem oD:FOk Tryz.prog 65 jG:=fk [(31,cR)] ⟨fA,trivial⟩ Tryz.func65 .no
theorem qy:FOk Tryz.prog 30 kU:=fk [(63,eG),(64,bB),(65,jG)] ⟨iX,cZ,oD,trivial⟩ Tryz.func30 .no
theorem nS:FOk Tryz.prog 8 kB:=fk [(30,kU),(31,cR)] ⟨qy,fA,trivial⟩ Tryz.func8 .no
theorem mT:FOk Tryz.prog 40 jH:=fk [(8,kB),(10,gK)] ⟨nS,iW,trivial⟩ Tryz.func40 .no
theorem yE:FOk Tryz.prog 59 qV:=fk [(36,gZ),(71,iB)] ⟨kZ,j8,trivial⟩ Tryz.func59 .no
theorem qz:FOk Tryz.prog 26 nq:=fk [(10,gK),(40,jH),(59,qV)] ⟨iW,mT,yE,trivial⟩ Tryz.func26 .no
theorem uh:FOk Tryz.prog 6 nJ:=fk [(25,nI),(26,nq)] ⟨ug,qz,trivial⟩ Tryz.func6 .no
theorem nT:FOk Tryz.prog 9 kC:=fk [(32,dX),(33,jd),(34,ou)] ⟨fQ,kW,tq,trivial⟩ Tryz.func9 .no
theorem yF:FOk Tryz.prog 39 te:=fk [] trivial Tryz.func39 (.two .no (.two (.two .no (.loop [.slot 5 (.num .i64)] .no)) .no))
theorem qA:FOk Tryz.prog 38 kV:=fk [(39,te)] ⟨yF,trivial⟩ Tryz.func38 (.two .no (.two .no (.two (.two .no (.loop [.slot 5 (.num .i64)] .no)) (.two (.two .no (.loop [.slot 6 (.num .i64)] .no)) .no))))
theorem nU:FOk Tryz.prog 11 kD:=fk [(38,kV),(39,te)] ⟨qA,yF,trivial⟩ Tryz.func11 .no
theorem jN:FOk Tryz.prog 27 gL:=fk [(11,kD),(51,lP)] ⟨nU,pJ,trivial⟩ Tryz.func27 .no
theorem oE:FOk Tryz.prog 28 lT:=fk [(60,oq)] ⟨tn,trivial⟩ Tryz.func28 .no
theorem ui:FOk Tryz.prog 7 nK:=fk [(9,kC),(27,gL),(28,lT),(29,iA)] ⟨nT,jN,oE,j7,trivial⟩ Tryz.func7 .no
theorem yG:FOk Tryz.prog 12 qW:=fk [] trivial Tryz.func12 (.two .no (.two .no (.two (.two .no (.loop [.slot 5 (.num .i64)] .no)) .no)))
end R
namespace R
open Go.RowKit
open D
theorem wE:FOk Tryz.prog 75 pE:=fk [(73,lS),(98,ox)] ⟨oA,tv,trivial⟩ Tryz.func75 (.two .no (.two (.two .no (.loop [.slot 14 (.num .i64)] (.two .no (.two .no (.two (.two .no (.two .no (.loop [.slot 24 (.num .i64)] .no))) .no))))) .no))
theorem kE:FOk Tryz.prog 100 fM:=Fj Ae (enters_of Tryz.func100 (by kernel_rfl) rfl) 3
theorem iY:FOk Tryz.prog 101 eH:=fk [] trivial Tryz.func101 (.two .no (.two .no (.two (.two .no (.loop [.slot 3 (.num .i64)] (.two .no (.two (.two .no (.two (.two .no (.two (.two .no (.loop [.slot 3 (.num .i64),.slot 5 (.num .i64),.row 0 3 y3] (.two .no (.two (.at [.slot 3 (.num .i64),.row 0 3 y3] .no) .no)))) .no)) .no)) .no)))) .no))) (an:=[(28,.raw),(56,.raw),(59,.raw)])
theorem wF:FOk Tryz.prog 76 pF:=fk [(71,iB),(100,fM),(101,eH)] ⟨j8,kE,iY,trivial⟩ Tryz.func76 .no
theorem tw:FOk Tryz.prog 41 mP:=fk [(35,gY),(75,pE),(76,pF)] ⟨kY,wE,wF,trivial⟩ Tryz.func41 (.two .no (.two .no (.two .no (.two (.two .no (.loop [.slot 7 (.own 3 y3),.slot 20 (.num .i64)] (.two .no (.two .no (.two (.at [.slot 7 (.own 3 y3)] .no) .no))))) .no))))
theorem tx:FOk Tryz.prog 13 mQ:=fk [(40,jH),(41,mP)] ⟨mT,tw,trivial⟩ Tryz.func13 .no
theorem uj:FOk Tryz.prog 78 nL:=fk [(91,kt)] ⟨nM,trivial⟩ Tryz.func78 (.two .no (.two .no (.two (.two .no (.loop [.slot 10 (.num .i64)] .no)) .no)))
theorem Fs:FOk Tryz.prog 79 yB:=fk [] trivial Tryz.func79 (.two .no (.two .no (.two (.two .no (.loop [.slot 3 (.own 3 y3),.slot 4 (.num .i64)] (.two .no (.join [.slot 3 (.own 3 y3)] .no .no)))) .no)))
theorem Ao:FOk Tryz.prog 43 tf:=fk [(61,mN),(78,nL),(79,yB)] ⟨q8,uj,Fs,trivial⟩ Tryz.func43 (.two .no (.two .no (.two .no (.two .no (.two (.two .no (.loop [.slot 9 (.num .i64),.slot 10 (.num .i64)] (.two .no (.join [.slot 9 (.num .i64)] .no .no)))) .no)))))
theorem tz:FOk Tryz.prog 14 mR:=fk [(42,ot),(43,tf)] ⟨tp,Ao,trivial⟩ Tryz.func14 .no
theorem wG:FOk Tryz.prog 15 pG:=fk [(10,gK)] ⟨iW,trivial⟩ Tryz.func15 (.two .no (.two .no (.two .no (.two (.two .no (.loop [.slot 40 (.num .i64)] .no)) .no))))
theorem lV:FOk Tryz.prog 16 gM:=fk [(22,pz),(23,lQ),(44,qu)] ⟨tg,oz,vi,trivial⟩ Tryz.func16 .no
theorem oF:FOk Tryz.prog 17 jI:=fk [(26,nq),(45,kz)] ⟨qz,nQ,trivial⟩ Tryz.func17 .no
theorem oG:FOk Tryz.prog 18 jJ:=fk [(27,gL),(28,lT),(29,iA),(46,ku)] ⟨jN,oE,j7,nO,trivial⟩ Tryz.func18 .no
theorem Io:FOk Tryz.prog 47 BL:=fk [(53,bJ),(54,cD),(55,fy)] ⟨bO,cY,gg,trivial⟩ Tryz.func47 .no
theorem lW:FOk Tryz.prog 19 gN:=fk [(22,pz),(23,lQ),(47,BL)] ⟨tg,oz,Io,trivial⟩ Tryz.func19 .no
theorem oH:FOk Tryz.prog 20 jK:=fk [(26,nq),(48,kA)] ⟨qz,nR,trivial⟩ Tryz.func20 .no
end R
namespace R
open Go.RowKit
open D
theorem oJ:FOk Tryz.prog 21 jL:=fk [(27,gL),(28,lT),(29,iA),(49,ky)] ⟨jN,oE,j7,nP,trivial⟩ Tryz.func21 .no
theorem Ap:FOk Tryz.prog 3 Ag:=fk [(4,Fk),(5,j6),(6,nJ),(7,nK),(8,kB),(9,kC),(10,gK),(11,kD),(12,qW),(13,mQ),(14,mR),(15,pG),(16,gM),(17,jI),(18,jJ),(19,gN),(20,jK),(21,jL)] ⟨L6,pK,uh,ui,nS,nT,iW,nU,yG,tx,tz,wG,lV,oF,oG,lW,oH,oJ,trivial⟩ Tryz.func3 (.two .no (.two .no (.two .no (.two .no (.two .no (.two .no (.two .no (.joinX [] .no .no))))))))
end R
namespace D
open Go.RowKit
theorem Aq (x0:List Int) (r:Bool) (hm:lL x0=some r) {I:Hp} {w0:World} (v0_0:Value) (r0_0:(ak 5 rU8).rd I [v0_0] x0) (hL:Lay Tryz.prog I):Con Tryz.prog 3 #[v0_0] I w0 [] (fun v=>v= .bool r) (fun _=>[]):=fun w C hs =>
 ((R.Ap).con rfl w0 I undef [v0_0] (x0,()) r hL ⟨_,_,rfl,⟨[v0_0],rfl,r0_0⟩,rfl⟩ hm w C hs).mono fun e w' ⟨v,he,_,hst⟩=>by
  obtain ⟨h1,h2⟩:=R.oZ (h1:=fun _=>rfl) (show St I w0 w' (Ch.own R.Ty.bool.rep [v] r::C) from hst)
  exact ⟨v,he,(List.cons.inj h1).1,h2⟩
end D
namespace D
open Go.RowKit
def I64 (n:Int):Prop:= -9223372036854775808<=n/\n<=9223372036854775807
class Data (α:Type) where
 lim:α->Prop
 sm:α->Prop
instance:Data Int:=⟨I64,fun _=>True⟩
instance:Data Bool:=⟨fun _=>True,fun _=>True⟩
instance:Data ByteArray:=⟨fun s=>s.size<=9223372036854775807,fun s=>s.size<=1048576⟩
instance {α β:Type} [Data α] [Data β] :Data (α×β):=⟨fun x=>Data.lim x.1/\Data.lim x.2,fun x=>Data.sm x.1/\Data.sm x.2⟩
instance {α:Type} [Data α] :Data (List α):=⟨fun xs=>xs.length<=9223372036854775807/\ ∀x,x∈xs->Data.lim x,fun xs=>xs.length<=1048576/\ ∀x,x∈xs->Data.sm x⟩
structure Opens (P:Program) (t:TypeId) {α:Type} [Data α] (R:Rep α):Prop where
 out: ∀ {H:Type} (enc:TypeId×Value->H) (w:World) (fuel:Nat) (cs:List Value) (x:DataW H×List MemPlace),DataW.trod enc P w 0 (fun _=>true) true fuel t cs=some x-> ∃a:α,R.rd (hp w) cs a/\Data.lim a
theorem Ip {P:Program} {t:TypeId} (h:P.underlying t=some (.int .u8)):Opens P t rU8:=by
 constructor
 intro H enc w fuel cs x hx
 obtain ⟨n,rfl,-,hw⟩:=DataW.trod_int h hx
 refine ⟨n,rfl,show I64 n from ?_⟩
 simp[Lit.wf,IntKind.min,IntKind.max,IntKind.signed,IntKind.bits] at hw
 unfold I64
 omega
theorem Ar {P:Program} {t e:TypeId} {α:Type} [Data α] {R:Rep α} {E:TypeId} (h:P.underlying t=some (.slice e)) (hc:P.cellsOf e=R.size) (h0:0<R.size) (he:Opens P e R):Opens P t (ak E R):=by
 constructor
 intro H enc w fuel cs x hx
 rcases Go.Deep.open_slice h hx with ⟨rfl,-⟩ | ⟨a,len,cap,m,n,D,Pl,rfl,-,hl,hm,hmm,-,hel⟩
 ·exact ⟨[],⟨none,0,rfl,by simp,.inl rfl⟩,Nat.zero_le _,fun x hx=>by cases hx⟩
 have hlm:m=cap:=by simpa using hmm
 subst hlm
 rw[hc] at hel
 by_cases hz:len=0
 ·subst hz
  exact ⟨[],⟨some a,m,rfl,by simp,.inl rfl⟩,Nat.zero_le _,fun x hx=>by cases hx⟩
 ·have hone: ∀i,i<len-> ∃c:List Value,∃y:α,c.length=R.size/\(∀j,j<R.size->w.cell? ((a.add (i*R.size)).add j)=c[j]?)/\R.rd (hp w) c y/\Data.lim y:=by
   intro i hi
   obtain ⟨c,h1,h2⟩:=hel i (by omega)
   obtain ⟨-,h3,h4⟩:=World.cells?_some h1
   obtain ⟨y,hy⟩:=he.out enc w _ _ _ h2
   exact ⟨c,y,h3,h4,hy⟩
  obtain ⟨c0,y0,hc0,hr0,-⟩:=hone 0 (by omega)
  have h00:=hr0 0 h0
  have hsome: ∃v,c0[0]? =some v:=⟨_,List.getElem?_eq_getElem (by omega)⟩
  obtain ⟨v,hv⟩:=hsome
  rw[hv] at h00
  have ha:(a.add (0*R.size)).add 0=a:=by simp[Addr.add]
  rw[ha] at h00
  obtain ⟨b,off,spot⟩:=a
  have hb: ∃ccs T fr,w.heap[b]? =some (.cells ccs T fr)/\spot=none:=by
   simp only[World.cell?] at h00
   split at h00
   ·rename_i ccs T fr heq
    cases spot with
    | none=>exact ⟨ccs,T,fr,heq,rfl⟩
    | some s=>simp at h00
   ·simp at h00
  obtain ⟨ccs,T,fr,hh,rfl⟩:=hb
  have hadd: ∀i j,(Addr.add ⟨b,off,none⟩ i).add j=⟨b,off+i+j,none⟩:=by
   intro i j
   by_cases h1:i=0 <;> by_cases h2:j=0 <;> simp[Addr.add,h1,h2,Nat.add_assoc]
  haveI:Inhabited α:=⟨y0⟩
  obtain ⟨X,hX⟩:=Go.Deep.choose_lt (α:=α) (n:=len) (p:=fun i y=> ∃c:List Value,c.length=R.size/\(∀j,j<R.size->ccs.toList[off+i*R.size+j]? =c[j]?)/\R.rd (hp w) c y/\Data.lim y) (fun i hi=>by
   obtain ⟨c,y,h1,h2,h3⟩:=hone i hi
   refine ⟨y,c,h1,fun j hj=>?_,h3⟩
   have:=h2 j hj
   rw[hadd] at this
   simp only[World.cell?,hh] at this
   simpa using this)
  have hlen:((List.range len).map X).length=len:=by simp
  have hel2: ∀i y,((List.range len).map X)[i]? =some y->i<len/\y=X i:=fun i y hy=>by
   have hi:i<len:=by have:=(List.getElem?_eq_some_iff.1 hy).1;omega
   exact ⟨hi,by simpa [hi] using hy.symm⟩
  refine ⟨(List.range len).map X,⟨some ⟨b,off,none⟩,m,by rw[hlen],by rw[hlen];unfold maxLen at hm;unfold lim;omega,.inr ⟨b,off,ccs,T,fr,rfl,hh,fun i y hy=>?_⟩⟩,by rw[hlen];unfold maxLen at hm;omega,fun y hy=>?_⟩
  ·obtain ⟨hi,rfl⟩:=hel2 i y hy
   obtain ⟨c,e1,e2,e3,-⟩:=hX i hi
   exact ⟨c,e1,e2,e3⟩
  ·obtain ⟨i,hi,he⟩:=List.mem_iff_getElem?.1 hy |>.imp fun i hi=>hel2 i y hi
   obtain ⟨-,-,-,-,e4⟩:=hX i hi
   rw[he];exact e4
theorem St.below {w0 w:World} {cs:List Ch} (h:St (hp w0) w0 w cs):Below w0.heap.size w0 w:=by
 obtain ⟨⟨h1,h2,h3,h4⟩,h5,-⟩:=h
 refine ⟨h1,h2,h3,h4,fun b hb=>?_⟩
 have e:w0.heap[b]? =some w0.heap[b]:=Array.getElem?_eq_getElem hb
 rw[e];exact h5 b _ e
end D
namespace D
open Go.RowKit
theorem br {n:Int} (h1: -9223372036854775808<=n) (h2:n<=9223372036854775807):IntKind.i64.wrap n=n:=by
 simp only[IntKind.wrap,IntKind.bits,IntKind.signed,Bool.true_and]
 split <;> rename_i h <;> simp at h <;> omega
theorem aE {i:Nat} (h:i<9223372036854775807):IntKind.i64.wrap ((i:Int)+1)=((i+1:Nat):Int):=by
 rw[br (by omega) (by omega)];rfl
theorem bm {α:Type} {xs:List α} {i:Nat} (h:i<xs.length):aW xs (i:Int)=some (xs[i]):=by
 unfold aW
 rw[if_pos (Int.natCast_nonneg _)]
 simp[h]
theorem iN {i n:Nat} (h:i<n):decide ((i:Int)<(n:Int))=true:=by simp[h]
theorem gO {n:Nat} :decide ((n:Int)<(n:Int))=false:=by simp
theorem ld (k:Nat) (h:k<=9223372036854775807):k<a8:=by unfold a8;omega
theorem Ft {α:Type} {b n:Nat} {z:α} (h:n*b<=140737488355328):mkI b (n:Int) z=some (List.replicate n z):=by
 unfold mkI
 rw[if_pos ⟨Int.natCast_nonneg _,by simpa using h⟩];simp
theorem yH {R S:Type} {f:S->Option (Out R S)} (inv:Nat->S) (N:Nat) (h: ∀i,i<N->f (inv i)=some (.nxt (inv (i+1)))): ∀(m i k:Nat),i+m=N->aF f (k+m) (inv i)=aF f k (inv N)
 | 0,i,k,e=>by rw[show i=N by omega];rfl
 | m+1,i,k,e=>by
  rw[<-Nat.add_assoc,aF,h i (by omega)]
  exact yH inv N h m (i+1) k (by omega)
theorem Fu {R S:Type} {f:S->Option (Out R S)} (inv:Nat->S) (N:Nat) {s:S} (h: ∀i,i<N->f (inv i)=some (.nxt (inv (i+1)))) (he:f (inv N)=some (.brk s)) (hN:N<a8):aF f a8 (inv 0)=some (.brk s):=by
 have e:a8=(a8 - N - 1)+1+N:=by omega
 rw[e,yH inv N h N 0 _ (by omega),aF,he]
theorem Qc {α:Type} [Data α] {f:Int×Int->Option (Out Int (Int×Int))} (xs:List α)
  (hstep: ∀i (h:i<xs.length) l,0<=l->l<=1048576-> ∃r,f (l,(i:Int))=some (if r<0 then .ret (-1) else .nxt (r,((i+1:Nat):Int)))/\(r<0\/(0<=r/\r<=l/\Data.sm xs[i])))
  (hend: ∀l,f (l,(xs.length:Int))=some (.brk (l,(xs.length:Int)))): ∀(m i k:Nat) (l:Int),i+m=xs.length->m<k->0<=l->l<=1048576->
   aF f k (l,(i:Int))=some (.ret (-1))\/ ∃r,aF f k (l,(i:Int))=some (.brk (r,(xs.length:Int)))/\0<=r/\r<=l/\ ∀j (h:j<xs.length),i<=j->Data.sm xs[j]
 | 0,i,k,l,e,hk,h0,h1=>by
  obtain ⟨k,rfl⟩: ∃q,k=q+1:=⟨k - 1,by omega⟩
  obtain rfl:i=xs.length:=by omega
  exact .inr ⟨l,by rw[aF,hend],h0,Int.le_refl _,fun j hj hi=>by omega⟩
 | m+1,i,k,l,e,hk,h0,h1=>by
  obtain ⟨k,rfl⟩: ∃q,k=q+1:=⟨k - 1,by omega⟩
  obtain ⟨r,e1,e2⟩:=hstep i (by omega) l h0 h1
  rw[aF,e1]
  rcases e2 with e2 | ⟨e2,e3,e4⟩
  ·rw[if_pos e2];exact .inl rfl
  ·rw[if_neg (by omega)]
   rcases Qc xs hstep hend m (i+1) k r (by omega) (by omega) e2 (by omega) with h | ⟨q,g1,g2,g3,g4⟩
   ·exact .inl h
   ·refine .inr ⟨q,g1,g2,by omega,fun j hj hi=>?_⟩
    by_cases hji:j=i
    ·subst hji;exact e4
    ·exact g4 j hj (by omega)
theorem szL {α:Type} [Data α] {f:Int×Int->Option (Out Int (Int×Int))} (xs:List α) {l:Int} (hN:xs.length<=9223372036854775807)
  (hstep: ∀i (h:i<xs.length) l,0<=l->l<=1048576-> ∃r,f (l,(i:Int))=some (if r<0 then .ret (-1) else .nxt (r,((i+1:Nat):Int)))/\(r<0\/(0<=r/\r<=l/\Data.sm xs[i])))
  (hend: ∀l,f (l,(xs.length:Int))=some (.brk (l,(xs.length:Int)))) (h0:0<=l) (h1:l<=1048576) :
  ∃r,(if decide (IntKind.i64.wrap (l - (xs.length:Int))<0) then (some (-1)) else (aU (aF f a8 (IntKind.i64.wrap (l - (xs.length:Int)),0)) (fun r=>some r) (fun s4=>some s4.1)))=some r/\(r<0\/(0<=r/\r<=l/\Data.sm xs)):=by
 rw[br (by omega) (by omega)]
 by_cases h:l - (xs.length:Int)<0
 ·exact ⟨-1,by rw[if_pos (decide_eq_true h)],.inl (by decide)⟩
 ·rw[if_neg (by simpa using h)]
  rcases Qc xs hstep hend xs.length 0 a8 (l - xs.length) (by omega) (ld _ hN) (by omega) (by omega) with e | ⟨r,e,g1,g2,g3⟩
  ·exact ⟨-1,by rw[show ((0:Int))=((0:Nat):Int) from rfl,e];rfl,.inl (by decide)⟩
  ·refine ⟨r,by rw[show ((0:Int))=((0:Nat):Int) from rfl,e];rfl,.inr ⟨g1,by omega,by omega,fun x hx=>?_⟩⟩
   obtain ⟨j,hj,rfl⟩:=List.getElem_of_mem hx
   exact g3 j hj (Nat.zero_le _)
theorem Pq {α:Type} [DecidableEq α] {f:Int->Option (Out Bool Int)} (xs ys:List α) (hl:xs.length=ys.length)
  (hstep: ∀i (h:i<xs.length) (h':i<ys.length),f (i:Int)=some (if xs[i] =ys[i] then .nxt ((i+1:Nat):Int) else .ret false)) (hend:f (xs.length:Int)=some (.brk (xs.length:Int))): ∀(m i k:Nat),i+m=xs.length->m<k->
   aF f k (i:Int)=some (if xs.drop i=ys.drop i then .brk (xs.length:Int) else .ret false)
 | 0,i,k,e,hk=>by
  obtain ⟨k,rfl⟩: ∃q,k=q+1:=⟨k - 1,by omega⟩
  obtain rfl:i=xs.length:=by omega
  rw[aF,hend,List.drop_of_length_le (aB _),List.drop_of_length_le (by omega),if_pos rfl]
 | m+1,i,k,e,hk=>by
  obtain ⟨k,rfl⟩: ∃q,k=q+1:=⟨k - 1,by omega⟩
  have hi:i<xs.length:=by omega
  have hi':i<ys.length:=by omega
  have d1:=List.drop_eq_getElem_cons hi
  have d2:=List.drop_eq_getElem_cons hi'
  rw[aF,hstep i hi hi',d1,d2]
  by_cases h:xs[i] =ys[i]
  ·rw[if_pos h]
   simp only
   rw[Pq xs ys hl hstep hend m (i+1) k (by omega) (by omega)]
   simp only[List.cons.injEq,h,true_and]
  ·rw[if_neg h]
   simp only[List.cons.injEq,h,false_and,if_false]
theorem eqL {α:Type} [DecidableEq α] {f:Int->Option (Out Bool Int)} (xs ys:List α) (hN:xs.length<=9223372036854775807)
  (hstep: ∀i (h:i<xs.length) (h':i<ys.length),f (i:Int)=some (if xs[i] =ys[i] then .nxt ((i+1:Nat):Int) else .ret false)) (hend:f (xs.length:Int)=some (.brk (xs.length:Int))) :
  (if (xs.length:Int) !=(ys.length:Int) then (some false) else (aU (aF f a8 0) (fun r=>some r) (fun s4=>some true)))=some (decide (xs=ys)):=by
 by_cases hl:xs.length=ys.length
 ·rw[if_neg (by rw[hl];simp),show ((0:Int))=((0:Nat):Int) from rfl,Pq xs ys hl hstep hend xs.length 0 a8 (by omega) (ld _ hN)]
  by_cases h:xs=ys
  ·subst h;simp[aU]
  ·simp[aU,h]
 ·have:xs≠ys:=fun e=>hl (by rw[e])
  rw[if_pos (by simp;omega)];simp[this]
theorem eqB {α:Type} [DecidableEq α] {f:Int->Option (Out Bool Int)} {K:Option Bool} (xs ys:List α) (hN:xs.length<=9223372036854775807) (hl:xs.length=ys.length)
  (hstep: ∀i (h:i<xs.length) (h':i<ys.length),f (i:Int)=some (if xs[i] =ys[i] then .nxt ((i+1:Nat):Int) else .ret false)) (hend:f (xs.length:Int)=some (.brk (xs.length:Int))) :
  aU (aF f a8 0) (fun r=>some r) (fun s4=>K)=(if xs=ys then K else some false):=by
 rw[show ((0:Int))=((0:Nat):Int) from rfl,Pq xs ys hl hstep hend xs.length 0 a8 (by omega) (ld _ hN)]
 by_cases h:xs=ys
 ·subst h;simp[aU]
 ·simp[aU,h]
theorem NV {f:Int->Option (Out Int Int)} (xs ys:List Int)
  (hstep: ∀i (h:i<xs.length) (h':i<ys.length),f (i:Int)=some (if xs[i] < ys[i] then .ret (-1) else if xs[i] > ys[i] then .ret 1 else .nxt ((i+1:Nat):Int))) (hend: ∀i,xs.length<=i\/ys.length<=i->f (i:Int)=some (.brk (i:Int))): ∀(m i k:Nat),i+m=xs.length->m<k->
   (∃r,aF f k (i:Int)=some (.ret r)/\r≠0/\xs≠ys)\/ ∃s,aF f k (i:Int)=some (.brk s)/\(xs.length=ys.length->xs.drop i=ys.drop i)
 | 0,i,k,e,hk=>by
  obtain ⟨k,rfl⟩: ∃q,k=q+1:=⟨k - 1,by omega⟩
  exact .inr ⟨_,by rw[aF,hend i (.inl (by omega))],fun h=>by rw[List.drop_of_length_le (by omega),List.drop_of_length_le (by omega)]⟩
 | m+1,i,k,e,hk=>by
  obtain ⟨k,rfl⟩: ∃q,k=q+1:=⟨k - 1,by omega⟩
  have hi:i<xs.length:=by omega
  by_cases hi':i<ys.length
  ·have hne: ∀h:xs[i] ≠ys[i],xs≠ys:=fun h e=>h (by subst e;rfl)
   rw[aF,hstep i hi hi']
   by_cases h1:xs[i] < ys[i]
   ·rw[if_pos h1];exact .inl ⟨-1,rfl,by decide,hne (by omega)⟩
   ·rw[if_neg h1]
    by_cases h2:xs[i] > ys[i]
    ·rw[if_pos h2];exact .inl ⟨1,rfl,by decide,hne (by omega)⟩
    ·rw[if_neg h2]
     rcases NV xs ys hstep hend m (i+1) k (by omega) (by omega) with h | ⟨s,g1,g2⟩
     ·exact .inl h
     ·refine .inr ⟨s,g1,fun hl=>?_⟩
      have h3:xs[i] =ys[i]:=by omega
      rw[List.drop_eq_getElem_cons hi,List.drop_eq_getElem_cons hi',g2 hl,h3]
  ·exact .inr ⟨_,by rw[aF,hend i (.inr (by omega))],fun h=>by omega⟩
instance:LawfulBEq ByteArray where
 eq_of_beq {a b} h:=ByteArray.ext (eq_of_beq (show (a.data==b.data)=true from h))
 rfl {a}:=beq_self_eq_true a.data
theorem lr {α β:Type} (p:α×β):(p.1,p.2)=p:=rfl
theorem dg {α:Type} [Data α] {xs:List α} (h:Data.sm xs):xs.length<=1048576/\ ∀x,x∈xs->Data.sm x:=h
end D
namespace D
open Go.RowKit
theorem dt {R S:Type} {f:S->Option (Out R S)} (Inv:Nat->S->Prop) (Q:Out R S->Prop) (N:Nat)
  (h: ∀i s,i<=N->Inv i s->(i<N/\ ∃s',f s=some (.nxt s')/\Inv (i+1) s')\/ ∃o,f s=some o/\(∀s',o≠ .nxt s')/\Q o) {s:S} (h0:Inv 0 s) (hN:N<a8): ∃o,aF f a8 s=some o/\Q o:=by
 have key: ∀(k i:Nat) (s:S),i<=N->N<i+k->Inv i s-> ∃o,aF f k s=some o/\Q o:=by
  intro k
  induction k with
  | zero=>intro i s h1 h2;omega
  | succ k ih =>
   intro i s h1 h2 hI
   rcases h i s h1 hI with ⟨hi,s',e,hI'⟩ | ⟨o,e,hn,hq⟩
   ·obtain ⟨o,e',hq⟩:=ih (i+1) s' (by omega) (by omega) hI'
    exact ⟨o,by rw[aF,e];exact e',hq⟩
   ·refine ⟨o,?_,hq⟩
    rw[aF,e]
    cases o with
    | nxt s'=>exact absurd rfl (hn s')
    | brk s'=>rfl
    | ret r=>rfl
 exact key a8 0 s (by omega) (by omega) h0
theorem lf {R S:Type} {f:S->Option (Out R S)} (Inv:Nat->S->Prop) (N:Nat) (h: ∀i s,i<N->Inv i s-> ∃s',f s=some (.nxt s')/\Inv (i+1) s') (he: ∀s,Inv N s->f s=some (.brk s)) {s:S} (h0:Inv 0 s) (hN:N<a8): ∃s',aF f a8 s=some (.brk s')/\Inv N s':=by
 obtain ⟨o,e,s',rfl,h⟩:=dt (f:=f) Inv (fun o=> ∃s',o= .brk s'/\Inv N s') N (fun i s hi hI=>by
  by_cases h1:i<N
  ·exact .inl ⟨h1,h i s h1 hI⟩
  ·obtain rfl:i=N:=by omega
   exact .inr ⟨_,he s hI,(fun s' e=>by cases e),s,rfl,hI⟩) h0 hN
 exact ⟨s',e,h⟩
theorem ba {R S:Type} {f:S->Option (Out R S)} (st:Nat->S) (N:Nat) (h: ∀i,i<N->f (st i)=some (.nxt (st (i+1)))) (he:f (st N)=some (.brk (st N))) (hN:N<a8):aF f a8 (st 0)=some (.brk (st N)):=Fu st N h he hN
theorem lX {k:Nat} (h:k<=9223372036854775807):k<a8:=ld k h
theorem pM {i:Nat} (h:i<=9223372036854775807):IntKind.i64.wrap (i:Int)=(i:Int):=br (by omega) (by omega)
theorem lg {i:Nat} (h:i<=9223372036854775807):IntKind.i64.wrap ((i:Int) - 1)=(i:Int) - 1:=br (by omega) (by omega)
theorem aR {α:Type} {b:Nat} {xs ys:List α} (h:(xs.length+ys.length)*b<=140737488355328):cE b xs ys=some (xs++ys):=by unfold cE;rw[if_pos h]
theorem tC {i n:Nat} :decide ((i:Int)<(n:Int))=decide (i<n):=by simp
theorem cm {R S T:Type} {x:Option (Out R S)} {r:R} {kr:R->Option T} {k:S->Option T} (h:x=some (.ret r)):aU x kr k=kr r:=by rw[h];rfl
theorem aG {R S T:Type} {x:Option (Out R S)} {s:S} {kr:R->Option T} {k:S->Option T} (h:x=some (.brk s)):aU x kr k=k s:=by rw[h];rfl
def nth {α:Type} [Inhabited α] (xs:List α) (i:Int):α:=xs.getD i.toNat default
section
variable {α:Type} [Inhabited α] {xs ys:List α}
theorem aH {i:Int} (h0:0<=i) (h1:i<xs.length):aW xs i=some (nth xs i):=by
 unfold aW nth
 rw[if_pos h0]
 have:i.toNat<xs.length:=by omega
 simp[List.getD_eq_getElem?_getD,this]
theorem cT {i:Nat} (h:i<xs.length):nth xs (i:Int)=xs[i]:=by simp[nth,List.getD_eq_getElem?_getD,h]
theorem bP {i:Int} (h0:0<=i) (h1:i<xs.length):nth xs i∈xs:=by
 have:i.toNat<xs.length:=by omega
 have e:nth xs i=xs[i.toNat]:=by simp[nth,List.getD_eq_getElem?_getD,this]
 rw[e];exact List.getElem_mem this
theorem tD {i:Int} (h0:0<=i) (h1:i<xs.length):nth (xs++ys) i=nth xs i:=by
 have:i.toNat<xs.length:=by omega
 simp[nth,List.getD_eq_getElem?_getD,List.getElem?_append_left this]
theorem Fv {β:Type} [Inhabited β] {f:α->β} {i:Int} (h0:0<=i) (h1:i<xs.length):nth (xs.map f) i=f (nth xs i):=by
 have:i.toNat<xs.length:=by omega
 simp[nth,List.getD_eq_getElem?_getD,this]
theorem tE {x:α} (h:x∈xs): ∃i:Nat,i<xs.length/\nth xs (i:Int)=x:=by
 obtain ⟨i,hi,rfl⟩:=List.getElem_of_mem h
 exact ⟨i,hi,cT hi⟩
theorem iC {i:Int} {x:α} (h0:0<=i) (h1:i<xs.length):nth (xs.set i.toNat x) i=x:=by
 have:i.toNat<xs.length:=by omega
 simp[nth,List.getD_eq_getElem?_getD,this]
theorem jf {i j:Int} {x:α} (h0:0<=i) (hj:0<=j) (h:i≠j):nth (xs.set i.toNat x) j=nth xs j:=by
 have:i.toNat≠j.toNat:=by omega
 simp[nth,List.getD_eq_getElem?_getD,List.getElem?_set_ne this]
end
section
variable {κ:Type} [DecidableEq κ]
def nbL (l:List κ):Option κ->List κ
 | none=>l
 | some x=>if x∈l then l else l++ [x]
def nbI (l:List κ):Option κ->Int
 | none=> -1
 | some x=>(l.idxOf x:Int)
def nbS (l:List κ) (os:List (Option κ)):List κ:=os.foldl nbL l
def nbR (l:List κ):List (Option κ)->List Int
 | [] =>[]
 | o::os=>nbI l o::nbR (nbL l o) os
theorem Iq (l:List κ) (os:List (Option κ)) (o:Option κ):nbS l (os++ [o])=nbL (nbS l os) o:=by simp[nbS]
theorem BM: ∀(l:List κ) (os:List (Option κ)) (o:Option κ),nbR l (os++ [o])=nbR l os++ [nbI (nbS l os) o]
 | l,[],o=>rfl
 | l,p::os,o=>by
  show nbI l p::nbR (nbL l p) (os++ [o])=nbI l p::nbR (nbL l p) os++ [nbI (nbS (nbL l p) os) o]
  rw[BM (nbL l p) os o];rfl
theorem nt: ∀(l:List κ) (os:List (Option κ)),(nbR l os).length=os.length
 | l,[] =>rfl
 | l,o::os=>by show (nbR (nbL l o) os).length+1=_;rw[nt];rfl
theorem CV (l : List κ) (o : Option κ) : l <+: nbL l o := by
  cases o with
  | none => exact List.prefix_refl l
  | some x => unfold nbL; simp only; split
              · exact List.prefix_refl l
              · exact List.prefix_append l [x]
theorem nv: ∀(l:List κ) (os:List (Option κ)),l <+:nbS l os
 | l,[] =>List.prefix_refl l
 | l,o::os=>(CV l o).trans (nv (nbL l o) os)
theorem Fw {l : List κ} {o : Option κ} (h : l.Nodup) : (nbL l o).Nodup := by
  cases o with
  | none => exact h
  | some x => unfold nbL; simp only; split
              · exact h
              · rename_i hx; exact List.nodup_append.2 ⟨h, by simp, by rintro a ha b hb rfl; simp at hb; exact hx (hb ▸ ha)⟩
theorem yI: ∀ {l:List κ} {os:List (Option κ)},l.Nodup->(nbS l os).Nodup
 | l,[],h=>h
 | l,o::os,h=>yI (l:=nbL l o) (os:=os) (Fw h)
theorem L7 {l : List κ} {o : Option κ} {x : κ} : x ∈ nbL l o ↔ x ∈ l \/ o = some x := by
  cases o with
  | none => simp [nbL]
  | some y => unfold nbL; simp only; split
              · rename_i h; constructor
                · exact .inl
                · rintro (h' | h')
                  · exact h'
                  · simp at h'; exact h' ▸ h
              · simp; exact or_congr Iff.rfl eq_comm
theorem Fx: ∀ {l:List κ} {os:List (Option κ)} {x:κ},x∈nbS l os↔x∈l\/some x∈os
 | l,[],x=>by simp[nbS]
 | l,o::os,x=>by
  show x∈nbS (nbL l o) os↔_
  rw[Fx,L7,List.mem_cons,or_assoc]
  exact or_congr Iff.rfl (or_congr eq_comm Iff.rfl)
theorem As {l:List κ} {x:κ} (h:x∈l):nbL l (some x)=l:=by simp[nbL,h]
theorem Au {l:List κ} {x:κ} (h:x∉l):nbL l (some x)=l++ [x]:=by simp[nbL,h]
theorem yJ {l:List κ} {x:κ} (h:x∉l):l.idxOf x=l.length:=List.idxOf_eq_length h
def bfS (nx:κ->List (Option κ)) (first:κ):Nat->List κ
 | 0=>[first]
 | i+1=>match (bfS nx first i)[i]? with
  | some x=>nbS (bfS nx first i) (nx x)
  | none=>bfS nx first i
def bfR (nx:κ->List (Option κ)) (first:κ):Nat->List (List Int)
 | 0=>[]
 | i+1=>bfR nx first i++(match (bfS nx first i)[i]? with
  | some x=>[nbR (bfS nx first i) (nx x)]
  | none=>[])
variable {nx:κ->List (Option κ)} {first:κ}
theorem wH {i:Nat} (h:i<(bfS nx first i).length):bfS nx first (i+1)=nbS (bfS nx first i) (nx ((bfS nx first i)[i])):=by
 rw[bfS,List.getElem?_eq_getElem h]
theorem rH {i:Nat} (h:i<(bfS nx first i).length):bfR nx first (i+1)=bfR nx first i++ [nbR (bfS nx first i) (nx ((bfS nx first i)[i]))]:=by
 rw[bfR,List.getElem?_eq_getElem h]
theorem fm (i:Nat):bfS nx first i <+:bfS nx first (i+1):=by
 rw[bfS]
 split
 ·exact nv _ _
 ·exact List.prefix_refl _
theorem qB {i j:Nat} (h:i<=j):bfS nx first i <+:bfS nx first j:=by
 induction h with
 | refl=>exact List.prefix_refl _
 | step _ ih=>exact ih.trans (fm _)
theorem yK: ∀i,(bfS nx first i).Nodup
 | 0=>by simp[bfS]
 | i+1=>by
  rw[bfS]
  split
  ·exact yI (yK i)
  ·exact yK i
theorem pN {G:κ->Prop} (h0:G first) (h: ∀x,G x-> ∀y,some y∈nx x->G y): ∀i,∀x∈bfS nx first i,G x
 | 0=>by simp[bfS];exact h0
 | i+1=>by
  rw[bfS]
  split
  ·rename_i y hy
   intro x hx
   rcases Fx.1 hx with hx | hx
   ·exact pN h0 h i x hx
   ·exact h y (pN h0 h i y (List.mem_of_getElem? hy)) x hx
  ·exact pN h0 h i
theorem yL (i:Nat):(bfS nx first i)[0]? =some first:=by
 obtain ⟨t,ht⟩:=qB (nx:=nx) (first:=first) (Nat.zero_le i)
 rw[<-ht];rfl
theorem nw: ∀ {i:Nat},(∀j,j<i->j<(bfS nx first j).length)->(bfR nx first i).length=i
 | 0,_=>rfl
 | i+1,h=>by rw[rH (h i (by omega)),al,nw fun j hj=>h j (by omega)];rfl
def bfE (nx:κ->List (Option κ)) (first:κ) (N:Nat):Prop:=N=(bfS nx first N).length/\ ∀i,i<N->i<(bfS nx first i).length
end
end D
namespace D
open Go.RowKit
theorem BN (x:Int):0<=nA x 255/\nA x 255<=255:=by
 have h:(BitVec.ofInt 64 x &&& BitVec.ofInt 64 255).toNat<=255:=by
  rw[BitVec.toNat_and]
  exact Nat.le_trans Nat.and_le_right (by decide)
 unfold nA
 rw[br (by omega) (by omega)]
 omega
def gl (xs:List Int) (i:Int):Prop:=0<=i/\i<=(xs.length:Int)
section
variable {xs:List Int} {i h:Int}
theorem L8 (hl:xs.length<=1048576): ∃r:Int×Int,kK xs=some r/\gl xs r.1:=by
 have key: ∃s,aF (jW xs) a8 (IntKind.i64.wrap (10101+(xs.length:Int)),0)=some (.brk s):=by
  obtain ⟨o,e,s,rfl⟩:=dt (f:=jW xs) (fun j s=>s.2=(j:Int)) (fun o=> ∃s,o= .brk s) xs.length (fun j s hj hb=>by
   obtain ⟨a,b⟩:=s
   obtain rfl:b=(j:Int):=hb
   unfold jW
   simp only
   rw[tC]
   by_cases c0:j<xs.length
   ·rw[if_pos (by simpa using c0)]
    by_cases c:((j:Nat):Int)<4000
    ·rw[if_pos (by simpa using c),aH (by omega) (by omega)];simp only[aa]
     exact .inl ⟨c0,_,rfl,by show IntKind.i64.wrap ((j:Int)+1)=_;rw[br (by omega) (by omega)];omega⟩
    ·rw[if_neg (by simpa using c)]
     exact .inr ⟨_,rfl,(fun s' e=>by cases e),_,rfl⟩
   ·rw[if_neg (by simpa using c0)]
    exact .inr ⟨_,rfl,(fun s' e=>by cases e),_,rfl⟩) (s:=(IntKind.i64.wrap (10101+(xs.length:Int)),0)) rfl (lX (by omega))
  exact ⟨s,e⟩
 obtain ⟨s,hs⟩:=key
 unfold kK
 rw[aG hs]
 exact ⟨_,rfl,by show (0:Int)<=0;omega,by show (0:Int)<=_;omega⟩
theorem yM (hl:xs.length<=1048576) (hc:gl xs i): ∃r:Int×Int×Int,fZ (xs,i,h)=some r/\(0<=r.1/\r.1<=255)/\gl xs r.2.1:=by
 unfold fZ
 simp only
 by_cases c:i<(xs.length:Int)
 ·rw[if_pos (by simpa using c),aH hc.1 c];simp only[aa]
  refine ⟨_,rfl,BN _,?_⟩
  show gl xs (IntKind.i64.wrap (i+1))
  have:=hc.1
  rw[br (by omega) (by omega)]
  exact ⟨by omega,by omega⟩
 ·rw[if_neg (by simpa using c)];simp only[aa]
  exact ⟨_,rfl,BN _,hc⟩
theorem bD (hl:xs.length<=1048576) (hc:gl xs i) {n:Int} (hn:0<n): ∃r:Int×Int×Int,aJ (xs,i,h) n=some r/\(0<=r.1/\r.1<n)/\gl xs r.2.1:=by
 unfold aJ
 simp only
 rw[if_neg (by simpa using hn)]
 have hck:chk (n≠0)=some ():=by unfold chk;rw[if_pos (by omega)]
 by_cases c:n<=256
 ·rw[if_pos (by simpa using c)]
  obtain ⟨r,e,h1,h2⟩:=yM (h:=h) hl hc
  rw[e,hck];simp only[aa]
  exact ⟨_,rfl,⟨Int.tmod_nonneg _ h1.1,Int.tmod_lt_of_pos _ hn⟩,h2⟩
 ·rw[if_neg (by simpa using c)]
  obtain ⟨r1,e1,h1,k1⟩:=yM (h:=h) hl hc
  rw[e1];simp only[aa]
  obtain ⟨r2,e2,h2,k2⟩:=yM (h:=r1.2.2) hl k1
  rw[e2];simp only[aa]
  obtain ⟨r3,e3,h3,k3⟩:=yM (h:=r2.2.2) hl k2
  rw[e3];simp only[aa]
  obtain ⟨r4,e4,h4,k4⟩:=yM (h:=r3.2.2) hl k3
  rw[e4,hck];simp only[aa]
  have w1:IntKind.i64.wrap (r1.1*16777216)=r1.1*16777216:=br (by omega) (by omega)
  have w2:IntKind.i64.wrap (r2.1*65536)=r2.1*65536:=br (by omega) (by omega)
  have w3:IntKind.i64.wrap (r3.1*256)=r3.1*256:=br (by omega) (by omega)
  have w4:IntKind.i64.wrap (r1.1*16777216+r2.1*65536)=r1.1*16777216+r2.1*65536:=br (by omega) (by omega)
  have w5:IntKind.i64.wrap (r1.1*16777216+r2.1*65536+r3.1*256)=r1.1*16777216+r2.1*65536+r3.1*256:=br (by omega) (by omega)
  have w6:IntKind.i64.wrap (r1.1*16777216+r2.1*65536+r3.1*256+r4.1)=r1.1*16777216+r2.1*65536+r3.1*256+r4.1:=br (by omega) (by omega)
  rw[w1,w2,w3,w4,w5,w6]
  exact ⟨_,rfl,⟨Int.tmod_nonneg _ (by omega),Int.tmod_lt_of_pos _ hn⟩,k4⟩
theorem ma (hl:xs.length<=1048576) (hc:gl xs i) {n:Int} (hn:0<n): ∃r:Bool×Int×Int,bd (xs,i,h) n=some r/\gl xs r.2.1:=by
 obtain ⟨r,e,-,k⟩:=bD (h:=h) hl hc hn
 unfold bd
 simp only
 rw[e]
 exact ⟨_,rfl,k⟩
theorem cn (hl:xs.length<=1048576) (hc:gl xs i) {l:List Int} (h0:l≠ []): ∃r:Int×Int×Int,aT (xs,i,h) l=some r/\r.1∈l/\gl xs r.2.1:=by
 have hp:0<(l.length:Int):=by have:=List.length_pos_iff.2 h0;omega
 obtain ⟨r,e,h1,k⟩:=bD (h:=h) hl hc hp
 unfold aT
 simp only
 rw[e];simp only[aa]
 rw[aH h1.1 h1.2];simp only[aa]
 exact ⟨_,rfl,bP h1.1 h1.2,k⟩
theorem NW (hl:xs.length<=1048576) (hc:gl xs i) {l:List ByteArray} (h0:l≠ []): ∃r:ByteArray×Int×Int,nj (xs,i,h) l=some r/\r.1∈l/\gl xs r.2.1:=by
 have hp:0<(l.length:Int):=by have:=List.length_pos_iff.2 h0;omega
 obtain ⟨r,e,h1,k⟩:=bD (h:=h) hl hc hp
 unfold nj
 simp only
 rw[e];simp only[aa]
 rw[aH h1.1 h1.2];simp only[aa]
 exact ⟨_,rfl,bP h1.1 h1.2,k⟩
end
end D
namespace D
open Go.RowKit
abbrev AutT:=Int×(List Bool)×(List (List Int))
structure VA (a:AutT) (n:Nat):Prop where
 len:a.2.1.length=n
 start:0<=a.1/\a.1<n
 nlen:a.2.2.length=n
 row: ∀r∈a.2.2,r.length=9
 ent: ∀r∈a.2.2,∀t∈r,-1<=t/\t<n
def mv (a:AutT) (s:Int) (k:Nat):Int:=nth (nth a.2.2 s) k
theorem L9 (x l h:Int):dm x l h=some (decide (l<=x/\x<=h)):=by
 unfold dm
 by_cases c:l<=x
 ·simp[c]
 ·have: ¬l<=x/\True:=⟨c,trivial⟩
  simp[c]
theorem Ir (x l h:Int):ct x l h=some (decide (l<=x/\x<=h)):=by
 unfold ct
 by_cases c:l<=x
 ·simp[c]
 ·simp[c]
theorem scan {α R:Type} [Inhabited α] {f:Int->Option (Out R Int)} (xs:List α) (p:α->Prop) [DecidablePred p] (r:R) (hN:xs.length<=9223372036854775807)
  (h: ∀i:Nat,i<xs.length->f (i:Int)=some (if p (nth xs i) then .nxt ((i+1:Nat):Int) else .ret r)) (he:f (xs.length:Int)=some (.brk (xs.length:Int))) :
  (aF f a8 0=some (.brk (xs.length:Int))/\ ∀x∈xs,p x)\/(aF f a8 0=some (.ret r)/\ ¬ ∀x∈xs,p x):=by
 obtain ⟨o,e,hq⟩:=dt (f:=f) (fun i s=>s=(i:Int)/\ ∀j:Nat,j<i->p (nth xs j)) (fun o=>(o= .brk (xs.length:Int)/\ ∀x∈xs,p x)\/(o= .ret r/\ ¬ ∀x∈xs,p x)) xs.length (s:=0) (by
  rintro i s hi ⟨rfl,hp⟩
  by_cases hl:i<xs.length
  ·by_cases c:p (nth xs i)
   ·refine .inl ⟨hl,_,by rw[h i hl,if_pos c],rfl,fun j hj=>?_⟩
    by_cases e:j=i
    ·subst e;exact c
    ·exact hp j (by omega)
   ·refine .inr ⟨_,by rw[h i hl,if_neg c],(fun s' e=>by cases e),.inr ⟨rfl,fun hx=>c (hx _ (bP (by omega) (by omega)))⟩⟩
  ·obtain rfl:i=xs.length:=by omega
   refine .inr ⟨_,he,(fun s' e=>by cases e),.inl ⟨rfl,fun x hx=>?_⟩⟩
   obtain ⟨j,hj,rfl⟩:=tE hx
   exact hp j hj) ⟨rfl,by omega⟩ (lX hN)
 rcases hq with ⟨rfl,hq⟩ | ⟨rfl,hq⟩
 ·exact .inl ⟨e,hq⟩
 ·exact .inr ⟨e,hq⟩
section
variable {a:AutT} {n:Nat} (V:VA a n)
include V
theorem VA.pos:0<n:=by have:=V.start;omega
theorem VA.rowAt {s:Int} (h0:0<=s) (h1:s<n):(nth a.2.2 s).length=9:=V.row _ (bP h0 (by rw[V.nlen];exact h1))
theorem VA.mv {s:Int} {k:Nat} (h0:0<=s) (h1:s<n) (hk:k<9): -1<=mv a s k/\mv a s k<n:=
 V.ent _ (bP h0 (by rw[V.nlen];exact h1)) _ (bP (by omega) (by rw[V.rowAt h0 h1];omega))
theorem VA.get {s:Int} (h0:0<=s) (h1:s<n):aW a.2.2 s=some (nth a.2.2 s):=aH h0 (by rw[V.nlen];exact h1)
theorem VA.get2 {s:Int} {k:Nat} (h0:0<=s) (h1:s<n) (hk:k<9):aW (nth a.2.2 s) (k:Int)=some (D.mv a s k):=aH (by omega) (by rw[V.rowAt h0 h1];omega)
theorem VA.acc {s:Int} (h0:0<=s) (h1:s<n):aW a.2.1 s=some (nth a.2.1 s):=aH h0 (by rw[V.len];exact h1)
theorem BO {s:Int} {k:Nat} (h0:0<=s) (h1:s<n) (hk:k<9):bp a s (k:Int)=some (mv a s k):=by
 unfold bp mI
 rw[if_neg (by simp;omega),Ir];simp only[aa]
 rw[if_pos (by simp;omega),V.get h0 h1];simp only[aa]
 rw[V.get2 h0 h1 hk];rfl
end
end D
namespace D
open Go.RowKit
abbrev Tok:=Int×Int×Int×Int
def ar (t:Tok):Int:=
 if t.1=1\/t.1=2 then (if t.2.1=0/\t.2.2.1=0/\t.2.2.2=0 then 0 else -1)
 else if t.1=3 then (if (0<=t.2.1/\t.2.1<=8)/\t.2.2.1=0/\t.2.2.2=0 then 0 else -1)
 else if t.1=4\/t.1=5 then (if t.2.1=0/\t.2.2.1=0/\t.2.2.2=0 then 2 else -1)
 else if t.1=6 then (if t.2.1=0/\t.2.2.1=0/\t.2.2.2=0 then 1 else -1)
 else if t.1=7 then (if t.2.1=0/\(0<=t.2.2.1/\t.2.2.1<=t.2.2.2)/\(1<=t.2.2.2/\t.2.2.2<=3) then 1 else -1)
 else -1
theorem Is (x:Int):iw x=some (decide (0<=x/\x<=8)):=by unfold iw;rw[L9];rfl
theorem Qd (t:Tok):jv t=some (ar t):=by
 obtain ⟨k,l,lo,hi⟩:=t
 unfold jv ar
 simp only[Is,L9,aa]
 by_cases h1:k=1
 ·subst h1;simp;grind
 by_cases h2:k=2
 ·subst h2;simp;grind
 by_cases h3:k=3
 ·subst h3;simp;grind
 by_cases h4:k=4
 ·subst h4;simp;grind
 by_cases h5:k=5
 ·subst h5;simp;grind
 by_cases h6:k=6
 ·subst h6;simp;grind
 by_cases h7:k=7
 ·subst h7;simp;grind
 simp[h1,h2,h3,h4,h5,h6,h7]
theorem rI (t:Tok): -1<=ar t/\ar t<=2:=by
 unfold ar
 grind
theorem lY {t:Tok} (h:0<=ar t):(ar t=2/\(t.1=4\/t.1=5))\/(ar t=1/\(t.1=6\/t.1=7))\/(ar t=0/\(t.1=1\/t.1=2\/t.1=3)):=by
 unfold ar at h⊢
 grind
theorem yN {t:Tok} (h:0<=ar t) (k:t.1=7):(0<=t.2.2.1/\t.2.2.1<=t.2.2.2)/\(1<=t.2.2.2/\t.2.2.2<=3):=by
 unfold ar at h
 grind
mutual
def flat:Tr Tok->List Tok
 | .nil=>[]
 | .node t ks=>fX ks++ [t]
def fX:List (Tr Tok)->List Tok
 | [] =>[]
 | k::ks=>flat k++fX ks
end
inductive WT:Tr Tok->Prop
 | node {t:Tok} {ks:List (Tr Tok)} :ar t=(ks.length:Int)->(∀k,k∈ks->WT k)->WT (.node t ks)
theorem lh: ∀(a b:List (Tr Tok)),fX (a++b)=fX a++fX b
 | [],b=>rfl
 | k::a,b=>by rw[List.cons_append,fX,fX,lh a b,ah]
theorem iD (x:Tr Tok):fX [x] =flat x:=by rw[fX,fX,List.append_nil]
theorem Fy (x y:Tr Tok):fX [x,y] =flat x++flat y:=by rw[fX,iD]
theorem WT.cases {x:Tr Tok} (h:WT x):(∃t,x= .node t [] /\ar t=0)\/(∃t a,x= .node t [a] /\ar t=1/\WT a)\/ ∃t a b,x= .node t [a,b] /\ar t=2/\WT a/\WT b:=by
 cases h with
 | @node t ks h1 h2 =>
  have:=(rI t).2
  match ks,h1,h2 with
  | [],h1,h2=>exact .inl ⟨t,rfl,h1⟩
  | [a],h1,h2=>exact .inr (.inl ⟨t,a,rfl,h1,h2 a (by simp)⟩)
  | [a,b],h1,h2=>exact .inr (.inr ⟨t,a,b,rfl,h1,h2 a (by simp),h2 b (by simp)⟩)
  | _::_::_::_,h1,h2=>simp at h1;omega
theorem WT.ind {p:Tr Tok->Prop} (h0: ∀t,ar t=0->p (.node t [])) (h1: ∀t a,ar t=1->WT a->p a->p (.node t [a])) (h2: ∀t a b,ar t=2->WT a->WT b->p a->p b->p (.node t [a,b])) {x:Tr Tok} (h:WT x):p x:=by
 induction h with
 | @node t ks e k ih =>
  have:=(rI t).2
  match ks,e,k,ih with
  | [],e,k,ih=>exact h0 t e
  | [a],e,k,ih=>exact h1 t a e (k a (by simp)) (ih a (by simp))
  | [a,b],e,k,ih=>exact h2 t a b e (k a (by simp)) (k b (by simp)) (ih a (by simp)) (ih b (by simp))
  | _::_::_::_,e,_,_=>simp at e;omega
theorem Av (t:Tok):flat (.node t [])= [t]:=by rw[flat,fX];rfl
theorem CW (t:Tok) (a:Tr Tok):flat (.node t [a])=flat a++ [t]:=by rw[flat,iD]
theorem rj (t:Tok) (a b:Tr Tok):flat (.node t [a,b])=(flat a++flat b)++ [t]:=by rw[flat,Fy]
theorem WT.pos {x:Tr Tok} (h:WT x):1<=(flat x).length:=by
 cases h with
 | node h1 h2=>rw[flat];simp
def stp (s:List (Tr Tok)) (t:Tok):Option (List (Tr Tok)):=if ar t<0\/(s.length:Int)<ar t then none else some (s.take (s.length - (ar t).toNat)++ [.node t (s.drop (s.length - (ar t).toNat))])
def run:List (Tr Tok)->List Tok->Option (List (Tr Tok))
 | s,[] =>some s
 | s,t::l=>(stp s t).bind fun s'=>run s' l
theorem wI: ∀(a:List Tok) {b:List Tok} {s:List (Tr Tok)},run s (a++b)=(run s a).bind fun s'=>run s' b
 | [],b,s=>rfl
 | t::a,b,s=>by
  rw[List.cons_append,run,run]
  cases stp s t with
  | none=>rfl
  | some s'=>exact wI a
theorem rJ {a:List Tok} {t:Tok} {s:List (Tr Tok)} :run s (a++ [t])=(run s a).bind fun s'=>stp s' t:=by
 rw[wI]
 congr 1
 funext s'
 rw[run]
 cases stp s' t <;> rfl
theorem JF: ∀ {l:List Tok} {s s':List (Tr Tok)},run s l=some s'->(∀k,k∈s->WT k)->(∀k,k∈s'->WT k)/\fX s'=fX s++l
 | [],s,s',h,hs=>by
  obtain rfl:=ae h
  exact ⟨hs,by simp⟩
 | t::l,s,s',h,hs=>by
  rw[run] at h
  unfold stp at h
  by_cases c:ar t<0\/(s.length:Int)<ar t
  ·rw[if_pos c] at h;cases h
  ·rw[if_neg c] at h
   have hlen:(s.drop (s.length - (ar t).toNat)).length=(ar t).toNat:=by rw[aQ];omega
   obtain ⟨k1,k2⟩:=JF (show run _ l=some s' from h) fun k hk=>by
    rcases aD hk with hk | hk
    ·exact hs k (List.mem_of_mem_take hk)
    ·obtain rfl:=aw hk
     exact .node (by rw[hlen];omega) fun k hk=>hs k (List.mem_of_mem_drop hk)
   refine ⟨k1,?_⟩
   rw[k2,lh,iD,flat,<-ah,<-lh,List.take_append_drop]
   simp
theorem Iu {x:Tr Tok} (h:WT x): ∀s,run s (flat x)=some (s++ [x]):=by
 refine WT.ind (p:=fun x=> ∀s,run s (flat x)=some (s++ [x])) ?_ ?_ ?_ h
 ·intro t e s
  rw[Av,run,stp,if_neg (by omega),e]
  simp[run]
 ·intro t a e _ ia s
  rw[CW,rJ,ia]
  show stp (s++ [a]) t=_
  rw[stp,if_neg (by simp;omega),e]
  simp
 ·intro t a b e _ _ ia ib s
  rw[rj,rJ,wI,ia]
  show ((run (s++ [a]) (flat b)).bind fun s'=>stp s' t)=_
  rw[ib]
  show stp (s++ [a] ++ [b]) t=_
  rw[stp,if_neg (by simp;omega),e]
  have:(s++ [a] ++ [b]).length - (2:Int).toNat=s.length:=by simp
  rw[this]
  simp
def isX (e:List Tok):Bool:=match run [] e with
 | some [_] =>true
 | _=>false
theorem JG {e:List Tok} (h:isX e=true): ∃x,run [] e=some [x] /\WT x/\flat x=e:=by
 unfold isX at h
 split at h
 ·rename_i x hx
  obtain ⟨k1,k2⟩:=JF hx (fun k hk=>by cases hk)
  refine ⟨x,hx,k1 x (by simp),?_⟩
  rw[iD] at k2
  rw[k2];rfl
 ·cases h
theorem Ma {l:List Tok} : ∀ {s s':List (Tr Tok)},run s l=some s'->s'.length<=s.length+l.length:=by
 induction l with
 | nil=>intro s s' h;obtain rfl:=ae h;simp
 | cons t l ih =>
  intro s s' h
  rw[run] at h
  obtain ⟨s1,h1,h2⟩:=Option.bind_eq_some_iff.1 h
  have h3:=ih h2
  unfold stp at h1
  split at h1
  ·cases h1
  ·obtain rfl:=ae h1
   simp only[al,aA,au,aC] at h3⊢
   omega
theorem yO {e:List Tok} {i:Nat} (h:i<e.length):e.take (i+1)=e.take i++ [nth e (i:Int)]:=by
 rw[List.take_succ_eq_append_getElem h,cT h]
theorem BP {e:List Tok} {i:Nat} (h:i<e.length) {st:List (Tr Tok)} (h1:run [] (e.take i)=some st) (h2:stp st (nth e (i:Int))=none):run [] e=none:=by
 have:run [] (e.take (i+1))=none:=by rw[yO h,rJ,h1];exact h2
 rw[<-List.take_append_drop (i+1) e,wI,this];rfl
theorem Iv {e:List Tok} (he:e.length<=1048576):ni e=some (isX e):=by
 obtain ⟨o,eo,hq⟩:=dt (f:=lF e) (fun i s=> ∃st,s=((st.length:Int),(i:Int))/\run [] (e.take i)=some st) (fun o=>(o= .ret false/\run [] e=none)\/ ∃st,o= .brk ((st.length:Int),(e.length:Int))/\run [] e=some st) e.length (s:=(0,0)) (by
  rintro i s hi ⟨st,rfl,hst⟩
  have hl:=Ma hst
  simp only[aC,aA] at hl
  unfold lF
  simp only[lr]
  by_cases c:i<e.length
  ·rw[if_pos (by simp;omega),aH (by omega) (by omega)];simp only[aa]
   rw[Qd];simp only[aa]
   have hr:=rI (nth e (i:Int))
   by_cases c1:ar (nth e (i:Int))<0
   ·refine .inr ⟨_,by rw[if_pos (by simpa using c1)],(fun s' e=>by cases e),.inl ⟨rfl,BP c hst ?_⟩⟩
    rw[stp,if_pos (.inl c1)]
   ·rw[if_neg (by simpa using c1)]
    by_cases c2:ar (nth e (i:Int))>(st.length:Int)
    ·refine .inr ⟨_,by rw[if_pos (by simpa using c2)],(fun s' e=>by cases e),.inl ⟨rfl,BP c hst ?_⟩⟩
     rw[stp,if_pos (.inr c2)]
    ·rw[if_neg (by simpa using c2)]
     refine .inl ⟨c,_,rfl,st.take (st.length - (ar (nth e (i:Int))).toNat)++ [.node (nth e (i:Int)) (st.drop (st.length - (ar (nth e (i:Int))).toNat))],?_,?_⟩
     ·rw[br (n:=(st.length:Int) - ar (nth e (i:Int))) (by omega) (by omega),br (by omega) (by omega),aE (by omega)]
      congr 1
      simp only[al,aA,au,aC]
      omega
     ·rw[yO c,rJ,hst]
      show stp st _=_
      rw[stp,if_neg (by omega)]
  ·obtain rfl:i=e.length:=by omega
   rw[List.take_of_length_le (by omega)] at hst
   exact .inr ⟨_,by rw[if_neg (by simp)],(fun s' e=>by cases e),.inr ⟨st,rfl,hst⟩⟩) ⟨[],rfl,rfl⟩ (lX (by omega))
 unfold ni
 rcases hq with ⟨rfl,h⟩ | ⟨st,rfl,h⟩
 ·rw[cm eo];unfold isX;rw[h]
 ·rw[aG eo];unfold isX;rw[h]
  match st with
  | [] =>rfl
  | [_] =>rfl
  | _::_::_=>simp;omega
def Fz (e:List Tok):Tr Tok:=match run [] e with
 | some [x] =>x
 | _=>.nil
theorem vk {x:Tr Tok} (h:WT x):Fz (flat x)=x:=by unfold Fz;rw[Iu h];rfl
theorem Aw {e:List Tok} (he:e.length<=1048576):eQ e=some (decide (e.length<=24)&&isX e):=by
 unfold eQ
 rw[Iv he]
 by_cases c:e.length<=24
 ·rw[if_pos (by simp;omega)];simp[c]
 ·rw[if_neg (by simp;omega)];simp[c]
theorem chk_of {p:Prop} [Decidable p] (h:p):chk p=some ():=by unfold chk;rw[if_pos h]
theorem Mb {A:List Tok} {x:Tr Tok} (hx:WT x) (hl:(A++flat x).length<=1000000):eS (A++flat x)=some (A.length:Int):=by
 obtain ⟨s',e,ks,q1,q2,q3⟩: ∃s',aF (ic (A++flat x)) a8 (1,((A++flat x).length:Int))=some (.brk s')/\ ∃ks:List (Tr Tok),ks= [] /\s'.2=(A.length:Int)/\True:=by
  obtain ⟨o,eo,hq⟩:=dt (f:=ic (A++flat x)) (fun i s=> ∃ks:List (Tr Tok),(∀k,k∈ks->WT k)/\s=((ks.length:Int),(((A++fX ks).length:Nat):Int))/\i+(fX ks).length=(flat x).length/\(A++flat x).take (A++fX ks).length=A++fX ks) (fun o=> ∃s',o= .brk s'/\s'.2=(A.length:Int)) (flat x).length (s:=(1,((A++flat x).length:Int))) (by
   rintro i s hi ⟨ks,hw,rfl,hlen,htk⟩
   unfold ic
   simp only[lr]
   rcases List.eq_nil_or_concat ks with rfl | ⟨ks',y,rfl⟩
   ·refine .inr ⟨_,by rw[if_neg (by simp)],(fun s' e=>by cases e),_,rfl,?_⟩
    simp[fX]
   ·have hy:=hw y (by simp)
    cases hy with
    | @node t cs h1 h2 =>
     have hfl:fX (ks'++ [.node t cs])=fX (ks'++cs)++ [t]:=by rw[lh,iD,flat,lh,ah]
     rw[List.concat_eq_append,hfl] at hlen htk⊢
     simp only[al,au,aC] at hlen htk hl⊢
     rw[if_pos (by simp <;> omega)]
     have hpos:IntKind.i64.wrap (((A.length+((fX (ks'++cs)).length+1):Nat):Int) - 1)=((A.length+(fX (ks'++cs)).length:Nat):Int):=by
      rw[br (by omega) (by omega)];omega
     have hget:nth (A++flat x) ((A.length+(fX (ks'++cs)).length:Nat):Int)=t:=by
      have hlt:A.length+(fX (ks'++cs)).length<(A++flat x).length:=by rw[al];omega
      have e1:=congrArg (fun l:List Tok=>l[A.length+(fX (ks'++cs)).length]?) htk
      rw[List.getElem?_take_of_lt (by omega),List.getElem?_eq_getElem hlt,<-ah,List.getElem?_append_right (by rw[al];omega),al] at e1
      rw[cT hlt]
      simpa using e1
     rw[hpos,aH (by omega) (by simp only[al];omega),hget];simp only[aa]
     rw[Qd,h1];simp only[aa]
     have hcl:(cs.length:Int)<=2:=by rw[<-h1];exact (rI t).2
     have hkl:ks'.length<=(fX (ks'++cs)).length+1000000:=by
      have: ∀l:List (Tr Tok),(∀k,k∈l->WT k)->l.length<=(fX l).length:=by
       intro l
       induction l with
       | nil=>intro _;simp
       | cons k l ih =>
        intro h
        have h1:=(h k (by simp)).pos
        have h2:=ih fun k hk=>h k (by simp[hk])
        rw[fX];simp only[au,al];omega
      have:=this ks' fun k hk=>hw k (by simp[hk])
      rw[lh,al];omega
     refine .inl ⟨by omega,_,rfl,ks'++cs,fun k hk=>?_,?_,by omega,?_⟩
     ·rcases aD hk with hk | hk
      ·exact hw k (by simp[hk])
      ·exact h2 k hk
     ·rw[br (n:=((ks'.length+1:Nat):Int) - 1) (by omega) (by omega),br (by omega) (by omega)]
      congr 1
      (simp only[al]) <;> omega
     ·have e1:=congrArg (List.take (A++fX (ks'++cs)).length) htk
      rw[List.take_take,Nat.min_eq_left (by rw[al];omega),<-ah,List.take_left] at e1
      rw[al] at e1
      exact e1) ⟨[x],fun k hk=>by (obtain rfl:=aw hk;exact hx),by rw[iD];rfl,by rw[iD];omega,by rw[iD,List.take_length]⟩ (lX (by rw[al] at hl;omega))
  obtain ⟨s',rfl,h2⟩:=hq
  exact ⟨s',eo,[],rfl,h2,trivial⟩
 unfold eS
 rw[aG e,q2]
end D
namespace D
open Go.RowKit
instance trInh {α:Type} :Inhabited (Tr α):=⟨.nil⟩
def szX:Tr Tok->Int
 | .nil=>0
 | .node t ks=>min (szL t 1 ks) 100000
where szL (t:Tok) (acc:Int):List (Tr Tok)->Int
 | [] =>acc
 | k::ks=>szL t (acc+(if t.1=7 then (szX k+3)*t.2.2.2 else szX k)) ks
theorem fN {x:Tr Tok} (h:WT x):1<=szX x/\szX x<=100000:=by
 refine WT.ind (p:=fun x=>1<=szX x/\szX x<=100000) ?_ ?_ ?_ h
 ·intro t _
  show 1<=min (1:Int) 100000/\min (1:Int) 100000<=100000
  omega
 ·intro t a e _ ih
  show 1<=min ((1:Int)+(if t.1=7 then (szX a+3)*t.2.2.2 else szX a)) 100000/\min ((1:Int)+(if t.1=7 then (szX a+3)*t.2.2.2 else szX a)) 100000<=100000
  split
  ·rename_i k
   have hr:=yN (show 0<=ar t by omega) k
   have:0<=(szX a+3)*t.2.2.2:=Int.mul_nonneg (by omega) (by omega)
   omega
  ·omega
 ·intro t a b e _ _ iha ihb
  have k:t.1≠7:=by
   rcases lY (show 0<=ar t by omega) with ⟨_,k⟩ | ⟨k,_⟩ | ⟨k,_⟩ <;> omega
  show 1<=min ((1:Int)+(if t.1=7 then (szX a+3)*t.2.2.2 else szX a)+(if t.1=7 then (szX b+3)*t.2.2.2 else szX b)) 100000/\min ((1:Int)+(if t.1=7 then (szX a+3)*t.2.2.2 else szX a)+(if t.1=7 then (szX b+3)*t.2.2.2 else szX b)) 100000<=100000
  rw[if_neg k,if_neg k]
  omega
theorem FA {a h:Int} (h1:1<=a/\a<=100000) (h2:1<=h/\h<=3):IntKind.i64.wrap ((IntKind.i64.wrap (a+3))*h)=(a+3)*h:=by
 rw[br (n:=a+3) (by omega) (by omega)]
 have k1:0<=(a+3)*h:=Int.mul_nonneg (by omega) (by omega)
 have k2:(a+3)*h<=100003*3:=Int.mul_le_mul (by omega) (by omega) (by omega) (by omega)
 exact br (by omega) (by omega)
theorem Mc {a h:Int} (h1:1<=a/\a<=100000) (h2:1<=h/\h<=3):0<=(a+3)*h/\(a+3)*h<=300009:=by
 have k1:0<=(a+3)*h:=Int.mul_nonneg (by omega) (by omega)
 have k2:(a+3)*h<=100003*3:=Int.mul_le_mul (by omega) (by omega) (by omega) (by omega)
 omega
theorem iZ {A:List Tok} {t:Tok} (h:A.length<=1000000):aW (A++ [t]) (IntKind.i64.wrap (((A++ [t]).length:Int) - 1))=some t/\IntKind.i64.wrap (((A++ [t]).length:Int) - 1)=(A.length:Int):=by
 have e:IntKind.i64.wrap (((A++ [t]).length:Int) - 1)=(A.length:Int):=by
  rw[br (by simp only[al,au,aC];omega) (by simp only[al,au,aC];omega)]
  simp only[al,au,aC];omega
 refine ⟨?_,e⟩
 rw[e,aH (by omega) (by simp only[al,au,aC];omega),cT (by simp)]
 simp
theorem Qe {t:Tok} (h:ar t=2):(if t.1==4 then (some (t.1==4)) else (some (t.1==5)):Option Bool)=some true:=by
 rcases lY (show 0<=ar t by omega) with ⟨_,k | k⟩ | ⟨e,_⟩ | ⟨e,_⟩
 ·simp[k]
 ·simp[k]
 ·omega
 ·omega
theorem Iw {t:Tok} (h:ar t=1\/ar t=0):(if t.1==4 then (some (t.1==4)) else (some (t.1==5)):Option Bool)=some false:=by
 rcases lY (show 0<=ar t by omega) with ⟨e,k⟩ | ⟨e,k | k⟩ | ⟨e,k | k | k⟩
 ·omega
 all_goals simp[k]
theorem NX {t:Tok} (h:ar t=0):(t.1==6)=false/\(t.1==7)=false:=by
 rcases lY (show 0<=ar t by omega) with ⟨e,k⟩ | ⟨e,k | k⟩ | ⟨e,k | k | k⟩
 ·omega
 ·omega
 ·omega
 all_goals simp[k]
theorem Md {t:Tok} (h:ar t=1):((t.1==6)=true/\t.1=6)\/((t.1==6)=false/\(t.1==7)=true/\t.1=7):=by
 rcases lY (show 0<=ar t by omega) with ⟨e,k⟩ | ⟨e,k | k⟩ | ⟨e,k | k | k⟩
 ·omega
 ·left;simp[k]
 ·right;simp[k]
 all_goals omega
theorem tF {a b:Tr Tok} {t:Tok} (wb:WT b) (hl:((flat a++flat b)++ [t]).length<=1000000) :
  (((flat a++flat b)++ [t]).take ((((flat a++flat b).length:Nat):Int)).toNat)=flat a++flat b /\
  eS (flat a++flat b)=some (((flat a).length:Nat):Int) /\
  (((flat a++flat b)++ [t]).take ((((flat a).length:Nat):Int)).toNat)=flat a /\
  (flat a++flat b).drop ((((flat a).length:Nat):Int)).toNat=flat b:=by
 refine ⟨?_,Mb wb (by simp only[al,au,aC] at hl⊢;omega),?_,?_⟩
 ·rw[Int.toNat_natCast,List.take_left]
 ·rw[Int.toNat_natCast,ah,List.take_left]
 ·rw[Int.toNat_natCast,List.drop_left]
theorem NY {x:Tr Tok} (h:WT x): ∀n,(flat x).length<=n->(flat x).length<=1000000->cJ n (flat x)=some (szX x):=by
 refine WT.ind (p:=fun x=> ∀n,(flat x).length<=n->(flat x).length<=1000000->cJ n (flat x)=some (szX x)) ?_ ?_ ?_ h
 ·intro t e n hn hl
  rw[Av] at hn hl⊢
  match n,hn with
  | n+1,_ =>
   have hk:=NX e
   rw[cJ]
   have:=(iZ (A:=[]) (t:=t) (by simp)).1
   rw[List.nil_append] at this
   rw[this];simp only[aa]
   rw[Iw (.inr e)];simp only[aa,hk.1,hk.2,Bool.false_eq_true,if_false]
   rfl
 ·intro t a e wa ih n hn hl
  rw[CW] at hn hl⊢
  simp only[al,au,aC] at hn hl
  match n,hn with
  | n+1,hn =>
   have hr:=fN wa
   rw[cJ]
   obtain ⟨l1,l2⟩:=iZ (A:=flat a) (t:=t) (by omega)
   rw[l1];simp only[aa]
   rw[Iw (.inl e)];simp only[aa,Bool.false_eq_true,if_false]
   rw[l2,Int.toNat_natCast,List.take_left,chk_of (by simp only[al,au,aC];omega)];simp only[aa]
   rw[ih n (by omega) (by omega)];simp only[aa]
   rcases Md e with ⟨k1,k2⟩ | ⟨k1,k2,k3⟩
   ·rw[if_pos k1,br (by omega) (by omega)]
    show some (min 100000 (szX a+1))=some (min ((1:Int)+(if t.1=7 then (szX a+3)*t.2.2.2 else szX a)) 100000)
    rw[if_neg (by omega)]
    congr 1;omega
   ·have h7:=yN (show 0<=ar t by omega) k3
    have hm:=Mc hr h7.2
    rw[if_neg (by simp[k1]),if_pos k2,FA hr h7.2,br (by omega) (by omega)]
    show some (min 100000 ((szX a+3)*t.2.2.2+1))=some (min ((1:Int)+(if t.1=7 then (szX a+3)*t.2.2.2 else szX a)) 100000)
    rw[if_pos k3]
    congr 1;omega
 ·intro t a b e wa wb iha ihb n hn hl
  rw[rj] at hn hl⊢
  obtain ⟨p1,p2,p3,p4⟩:=tF (a:=a) (t:=t) wb hl
  simp only[al,au,aC] at hn hl
  match n,hn with
  | n+1,hn =>
   have hra:=fN wa
   have hrb:=fN wb
   have k:t.1≠7:=by
    rcases lY (show 0<=ar t by omega) with ⟨_,k⟩ | ⟨k,_⟩ | ⟨k,_⟩ <;> omega
   rw[cJ]
   obtain ⟨l1,l2⟩:=iZ (A:=flat a++flat b) (t:=t) (by rw[al];omega)
   rw[l1];simp only[aa]
   rw[Qe e];simp only[aa,if_true]
   rw[l2,p1,p2,chk_of (by simp only[al,au,aC];omega)];simp only[aa]
   rw[chk_of (by simp only[al,au,aC];omega),p3,p4];simp only[aa]
   rw[iha n (by omega) (by omega),chk_of (by simp only[al,au,aC];omega)];simp only[aa]
   rw[ihb n (by have:=wa.pos;omega) (by omega)];simp only[aa]
   rw[br (n:=szX a+szX b) (by omega) (by omega),br (by omega) (by omega)]
   show some (min 100000 (szX a+szX b+1))=some (min ((1:Int)+(if t.1=7 then (szX a+3)*t.2.2.2 else szX a)+(if t.1=7 then (szX b+3)*t.2.2.2 else szX b)) 100000)
   rw[if_neg k,if_neg k]
   congr 1;omega
def Ix:Tr Tok:=.node (2,0,0,0) []
def CX (x:Tr Tok):Nat->Int->Tr Tok
 | 0,_=>Ix
 | h+1,low=>if 0<low then .node (4,0,0,0) [x,CX x h (max 0 (low - 1))] else .node (5,0,0,0) [.node (4,0,0,0) [x,CX x h (max 0 (low - 1))],Ix]
mutual
def qC:Tr Tok->Tr Tok
 | .nil=>.nil
 | .node t ks=>if t.1=7 then CX ((Iy ks).headD .nil) t.2.2.2.toNat t.2.2.1 else .node t (Iy ks)
def Iy:List (Tr Tok)->List (Tr Tok)
 | [] =>[]
 | k::ks=>qC k::Iy ks
end
theorem ar4:ar (4,0,0,0)=2:=by decide
theorem ar5:ar (5,0,0,0)=2:=by decide
theorem ar2:ar (2,0,0,0)=0:=by decide
theorem FC:WT Ix:=.node ar2 fun k hk=>by cases hk
theorem pO:flat Ix= [(2,0,0,0)]:=Av _
theorem WT.two {t:Tok} {a b:Tr Tok} (h:ar t=2) (ha:WT a) (hb:WT b):WT (.node t [a,b]):=.node h fun k hk=>by
 rcases ax hk with rfl | hk
 ·exact ha
 ·obtain rfl:=aw hk
  exact hb
theorem WT.one {t:Tok} {a:Tr Tok} (h:ar t=1) (ha:WT a):WT (.node t [a]):=.node h fun k hk=>by
 obtain rfl:=aw hk
 exact ha
theorem Ax {x:Tr Tok} (hx:WT x): ∀(h:Nat) (low:Int),WT (CX x h low)
 | 0,_=>FC
 | h+1,low=>by
  rw[CX]
  split
  ·exact .two ar4 hx (Ax hx h _)
  ·exact .two ar5 (.two ar4 hx (Ax hx h _)) FC
theorem wJ (x:Tr Tok): ∀(h:Nat) (low:Int),(flat (CX x h low)).length<=((flat x).length+3)*h+1
 | 0,_=>by rw[CX,pO];simp
 | h+1,low=>by
  have ih:=wJ x h (max 0 (low - 1))
  rw[CX]
  split
  ·rw[rj];simp only[al,au,aC]
   rw[Nat.mul_succ];omega
  ·rw[rj,rj,pO];simp only[al,au,aC]
   rw[Nat.mul_succ];omega
theorem Ps {t:Tok} {a:Tr Tok} :qC (.node t [a])=if t.1=7 then CX (qC a) t.2.2.2.toNat t.2.2.1 else .node t [qC a]:=by rw[qC,Iy,Iy];rfl
theorem exp2 {t:Tok} {a b:Tr Tok} (h:t.1≠7):qC (.node t [a,b])= .node t [qC a,qC b]:=by rw[qC,if_neg h,Iy,Iy,Iy]
theorem Pt {t:Tok} (h:t.1≠7):qC (.node t [])= .node t []:=by rw[qC,if_neg h,Iy]
theorem no7 {t:Tok} (h:ar t=2\/ar t=0):t.1≠7:=by
 rcases lY (show 0<=ar t by omega) with ⟨_,k⟩ | ⟨k,_⟩ | ⟨_,k⟩ <;> omega
theorem NZ {x:Tr Tok} (h:WT x):WT (qC x):=by
 refine WT.ind (p:=fun x=>WT (qC x)) ?_ ?_ ?_ h
 ·intro t e
  rw[Pt (no7 (.inr e))]
  exact .node e fun k hk=>by cases hk
 ·intro t a e _ ih
  rw[Ps]
  split
  ·exact Ax ih _ _
  ·exact .one e ih
 ·intro t a b e _ _ iha ihb
  rw[exp2 (no7 (.inl e))]
  exact .two e iha ihb
theorem wK {x:Tr Tok} (h:WT x):szX x<100000->((flat (qC x)).length:Int)<=szX x:=by
 refine WT.ind (p:=fun x=>szX x<100000->((flat (qC x)).length:Int)<=szX x) ?_ ?_ ?_ h
 ·intro t e _
  rw[Pt (no7 (.inr e)),Av]
  show (1:Int)<=min 1 100000
  omega
 ·intro t a e wa ih hs
  have hr:=fN wa
  have hs':min ((1:Int)+(if t.1=7 then (szX a+3)*t.2.2.2 else szX a)) 100000<100000:=hs
  show _<=min ((1:Int)+(if t.1=7 then (szX a+3)*t.2.2.2 else szX a)) 100000
  rw[Ps]
  by_cases k:t.1=7
  ·rw[if_pos k] at hs'⊢
   rw[if_pos k]
   have h7:=yN (show 0<=ar t by omega) k
   have hge:szX a+3<=(szX a+3)*t.2.2.2:=by
    have:=Int.mul_le_mul_of_nonneg_left (c:=szX a+3) h7.2.1 (by omega)
    omega
   have h1:=ih (by omega)
   have h2:=wJ (qC a) t.2.2.2.toNat t.2.2.1
   have h3:(((flat (qC a)).length+3)*t.2.2.2.toNat:Int)<=(szX a+3)*t.2.2.2:=by
    rw[Int.toNat_of_nonneg (by omega)]
    exact Int.mul_le_mul_of_nonneg_right (by omega) (by omega)
   have h4:((flat (CX (qC a) t.2.2.2.toNat t.2.2.1)).length:Int)<=(((flat (qC a)).length+3)*t.2.2.2.toNat:Int)+1:=by exact_mod_cast h2
   omega
  ·rw[if_neg k] at hs'⊢
   rw[if_neg k,CW]
   have h1:=ih (by omega)
   simp only[al,au,aC]
   omega
 ·intro t a b e wa wb iha ihb hs
  have hra:=fN wa
  have hrb:=fN wb
  have k:=no7 (.inl e)
  have hs':min ((1:Int)+(if t.1=7 then (szX a+3)*t.2.2.2 else szX a)+(if t.1=7 then (szX b+3)*t.2.2.2 else szX b)) 100000<100000:=hs
  show _<=min ((1:Int)+(if t.1=7 then (szX a+3)*t.2.2.2 else szX a)+(if t.1=7 then (szX b+3)*t.2.2.2 else szX b)) 100000
  rw[if_neg k,if_neg k] at hs'⊢
  rw[exp2 k,rj]
  have h1:=iha (by omega)
  have h2:=ihb (by omega)
  simp only[al,au,aC]
  omega
theorem tG {a b:List Tok} {t:Tok} (h:a.length+b.length<=1000000):cG a b t=some ((a++b)++ [t]):=by
 unfold cG qn
 rw[aR (by simp only[al,au,aC];omega)];simp only[aa,List.nil_append]
 rw[aR (by omega)];simp only[aa]
 rw[aR (by simp only[al,au,aC];omega)];rfl
theorem FD {x:Tr Tok} : ∀(h n:Nat) (low:Int),h<n->h<=3->0<=low->low<=3->(flat x).length<=100000->ga n (flat x) low (h:Int)=some (flat (CX x h low))
 | 0,n+1,low,_,_,_,_,_=>by
  rw[ga,if_pos (by rfl),CX,pO];rfl
 | h+1,n+1,low,h1,h2,h3,h4,h5=>by
  rw[ga,if_neg (by simp;omega),br (n:=low - 1) (by omega) (by omega),br (n:=((h+1:Nat):Int) - 1) (by omega) (by omega)]
  rw[show ((h+1:Nat):Int) - 1=(h:Int) from by omega,FD h n (max 0 (low - 1)) (by omega) (by omega) (by omega) (by omega) h5];simp only[aa]
  have hl:=wJ x h (max 0 (low - 1))
  have hl3:((flat x).length+3)*h<=100003*3:=Nat.mul_le_mul (by omega) (by omega)
  rw[tG (by omega),CX];simp only[aa]
  by_cases c:0<low
  ·rw[if_pos (by simpa using c),if_pos c,rj]
  ·rw[if_neg (by simpa using c),if_neg c,rj,rj,pO]
   show (jc 2).bind _=_
   unfold jc;simp only[aa]
   rw[tG (by simp only[al,au,aC];omega)];rfl
theorem pP:1000000000000<=jO:=by rw[GF];unfold a8;omega
theorem Iz {x:Tr Tok} (h:WT x): ∀n,(flat x).length<=n->(flat x).length<=1000000->szX x<=50000->bM n (flat x)=some (flat (qC x)):=by
 have hF:=pP
 refine WT.ind (p:=fun x=> ∀n,(flat x).length<=n->(flat x).length<=1000000->szX x<=50000->bM n (flat x)=some (flat (qC x))) ?_ ?_ ?_ h
 ·intro t e n hn hl hs
  rw[Av] at hn hl⊢
  match n,hn with
  | n+1,_ =>
   have hk:=NX e
   rw[bM]
   have:=(iZ (A:=[]) (t:=t) (by simp)).1
   rw[List.nil_append] at this
   rw[this];simp only[aa]
   rw[Iw (.inr e)];simp only[aa,hk.1,hk.2,Bool.false_eq_true,if_false]
   rw[Pt (no7 (.inr e)),Av]
 ·intro t a e wa ih n hn hl hs
  have hs':min ((1:Int)+(if t.1=7 then (szX a+3)*t.2.2.2 else szX a)) 100000<=50000:=hs
  rw[CW] at hn hl⊢
  simp only[al,au,aC] at hn hl
  match n,hn with
  | n+1,hn =>
   have hr:=fN wa
   have hsa:szX a<=50000:=by
    by_cases k:t.1=7
    ·rw[if_pos k] at hs'
     have h7:=yN (show 0<=ar t by omega) k
     have hge:szX a+3<=(szX a+3)*t.2.2.2:=by
      have:=Int.mul_le_mul_of_nonneg_left (c:=szX a+3) h7.2.1 (by omega)
      omega
     omega
    ·rw[if_neg k] at hs';omega
   have hla:=wK wa (by omega)
   rw[bM]
   obtain ⟨l1,l2⟩:=iZ (A:=flat a) (t:=t) (by omega)
   rw[l1];simp only[aa]
   rw[Iw (.inl e)];simp only[aa,Bool.false_eq_true,if_false]
   rw[l2,Int.toNat_natCast,List.take_left,chk_of (by simp only[al,au,aC];omega)];simp only[aa]
   rw[ih n (by omega) (by omega) hsa,Ps];simp only[aa]
   rcases Md e with ⟨k1,k2⟩ | ⟨k1,k2,k3⟩
   ·rw[if_pos k1,if_neg (by omega),tG (by simp;omega),CW];simp
   ·have h7:=yN (show 0<=ar t by omega) k3
    rw[if_neg (by simp[k1]),if_pos k2,if_pos k3]
    have:=FD (x:=qC a) t.2.2.2.toNat jO t.2.2.1 (by omega) (by omega) (by omega) (by omega) (by omega)
    rw[Int.toNat_of_nonneg (by omega)] at this
    rw[this];rfl
 ·intro t a b e wa wb iha ihb n hn hl hs
  have k:=no7 (.inl e)
  have hs':min ((1:Int)+(if t.1=7 then (szX a+3)*t.2.2.2 else szX a)+(if t.1=7 then (szX b+3)*t.2.2.2 else szX b)) 100000<=50000:=hs
  rw[if_neg k,if_neg k] at hs'
  rw[rj] at hn hl⊢
  obtain ⟨p1,p2,p3,p4⟩:=tF (a:=a) (t:=t) wb hl
  simp only[al,au,aC] at hn hl
  match n,hn with
  | n+1,hn =>
   have hra:=fN wa
   have hrb:=fN wb
   have hla:=wK wa (by omega)
   have hlb:=wK wb (by omega)
   rw[bM]
   obtain ⟨l1,l2⟩:=iZ (A:=flat a++flat b) (t:=t) (by rw[al];omega)
   rw[l1];simp only[aa]
   rw[Qe e];simp only[aa,if_true]
   rw[l2,p1,p2,chk_of (by simp only[al,au,aC];omega)];simp only[aa]
   rw[chk_of (by simp only[al,au,aC];omega),p3,p4];simp only[aa]
   rw[iha n (by omega) (by omega) (by omega),chk_of (by simp only[al,au,aC];omega)];simp only[aa]
   rw[ihb n (by have:=wa.pos;omega) (by omega) (by omega)];simp only[aa]
   rw[tG (by omega),exp2 k,rj];rfl
def C9 (e:List Tok):List Tok×Bool:=
 if decide (e.length<=24)&&isX e then (if 5000<szX (Fz e) then ([],false) else (if 400<(flat (qC (Fz e))).length then ([],false) else (flat (qC (Fz e)),true))) else ([],false)
theorem Me {e:List Tok} (h:(C9 e).2=true): ∃y,WT y/\(C9 e).1=flat y/\(flat y).length<=400:=by
 unfold C9 at h⊢
 split at h
 ·rename_i c
  rw[if_pos c]
  rw[af] at c
  obtain ⟨x,h1,hw,rfl⟩:=JG c.2
  rw[vk hw] at h⊢
  split at h
  ·cases h
  ·rename_i c2
   rw[if_neg c2]
   split at h
   ·cases h
   ·rename_i c3
    rw[if_neg c3]
    exact ⟨_,NZ hw,rfl,by omega⟩
 ·cases h
end D
namespace D
open Go.RowKit
def Qr (out:List Bool) (t:Int):Bool:=decide (t≥0)&&nth out t
def hit (out:List Bool) (row:List Int):Bool:=row.any (Qr out)
def N1 (a:AutT) (out:List Bool) (s:Nat):List Bool:=if hit out (nth a.2.2 s) then out.set s true else out
def JH (a:AutT) (out:List Bool):Nat->List Bool
 | 0=>out
 | s+1=>N1 a (JH a out s) s
def cnt (out:List Bool):Nat:=out.count true
section
variable {a:AutT} {n:Nat}
def it (a:AutT):Nat->List Bool
 | 0=>a.2.1
 | j+1=>JH a (it a j) a.2.1.length
def live (a:AutT):List Bool:=it a a.2.1.length
section
variable (V:VA a n) (hn:n<=1000000)
include V hn
end
end
end D
namespace D
open Go.RowKit
def nothing:AutT:=(0,[false],[[-1,-1,-1,-1,-1,-1,-1,-1,-1]])
theorem take_one {α:Type} [Inhabited α] {xs:List α} {k:Nat} (h:k<xs.length):xs.take (k+1)=xs.take k++ [nth xs (k:Int)]:=by
 rw[List.take_succ_eq_append_getElem h,cT h]
theorem qD {α:Type} [Inhabited α] {xs ys:List α} (h:xs <+:ys) {i:Int} (h0:0<=i) (h1:i<xs.length):nth ys i=nth xs i:=by
 obtain ⟨t,rfl⟩:=h
 exact tD h0 h1
structure NumOk {κ:Type} [DecidableEq κ] (nx:κ->List (Option κ)) (first:κ) (G:κ->Prop) (B:Nat):Prop where
 g0:G first
 gn: ∀x,G x-> ∀y,some y∈nx x->G y
 len: ∀x,G x->(nx x).length=9
 bound: ∀l:List κ,l.Nodup->(∀x∈l,G x)->l.length<=B
section
variable {κ:Type} [DecidableEq κ] [Inhabited κ] {nx:κ->List (Option κ)} {first:κ} {G:κ->Prop} {B:Nat}
theorem NumOk.at (H:NumOk nx first G B) {i:Nat} (h:i<(bfS nx first i).length):G (nth (bfS nx first i) (i:Int)):=pN H.g0 H.gn i _ (bP (by omega) (by omega))
theorem yP {i:Nat} (h:i<(bfS nx first i).length):bfS nx first (i+1)=nbS (bfS nx first i) (nx (nth (bfS nx first i) (i:Int))):=by rw[wH h,cT h]
theorem FE {i:Nat} (h:i<(bfS nx first i).length):bfR nx first (i+1)=bfR nx first i++ [nbR (bfS nx first i) (nx (nth (bfS nx first i) (i:Int)))]:=by rw[rH h,cT h]
theorem IA {β:Type} {acc:κ->β} {i:Nat} (h:i<(bfS nx first i).length):((bfS nx first (i+1)).take (i+1)).map acc=((bfS nx first i).take i).map acc++ [acc (nth (bfS nx first i) (i:Int))]:=by
 have hp:=fm (nx:=nx) (first:=first) i
 have hl:=hp.length_le
 have e:(bfS nx first (i+1)).take i=(bfS nx first i).take i:=by
  obtain ⟨t,ht⟩:=hp
  rw[<-ht,List.take_append_of_le_length (by omega)]
 rw[take_one (by omega),aI,e,qD hp (by omega) (by omega)];rfl
end
section
variable {nx:Int->List (Option Int)} {first:Int} {G:Int->Prop} {B:Nat}
end
theorem N2 {l:List Int} {x:Int} (h:l.length<=9223372036854775807):lI l x=some (if x∈l then (l.idxOf x:Int) else -1):=by
 unfold lI
 obtain ⟨o,e,hq⟩:=dt (f:=ko l x) (fun i s=>s=(i:Int)/\x∉l.take i) (fun o=>(x∈l/\o= .ret (l.idxOf x:Int))\/(x∉l/\ ∃s,o= .brk s)) l.length (s:=0) (by
  rintro i s hi ⟨rfl,hx⟩
  unfold ko
  by_cases hl:i<l.length
  ·rw[if_pos (by simp;omega),aH (by omega) (by omega)];simp only[aa]
   by_cases c:nth l (i:Int)=x
   ·refine .inr ⟨_,by rw[if_pos (by simpa using c)],(fun s' e=>by cases e),.inl ?_⟩
    have e:l=l.take i++(x::l.drop (i+1)):=by
     rw[<-c,cT hl,<-List.drop_eq_getElem_cons hl,List.take_append_drop]
    refine ⟨by rw[e];simp,?_⟩
    congr 1
    conv=>rhs;rw[e,List.idxOf_append,if_neg hx,List.idxOf_cons_self]
    simp[aA];first | done | omega
   ·refine .inl ⟨hl,_,by rw[if_neg (by simpa using c)],by rw[aE (by omega)],?_⟩
    rw[take_one hl,List.mem_append,List.mem_singleton]
    rintro (h | h)
    ·exact hx h
    ·exact c h.symm
  ·refine .inr ⟨_,by rw[if_neg (by simp;omega)],(fun s' e=>by cases e),.inr ⟨?_,_,rfl⟩⟩
   rwa [List.take_of_length_le (by omega)] at hx) ⟨rfl,by simp⟩ (lX h)
 rcases hq with ⟨hx,rfl⟩ | ⟨hx,s,rfl⟩
 ·rw[cm e,if_pos hx]
 ·rw[aG e,if_neg hx]
section
variable {a:AutT} {n:Nat} {c:List Int} {lv:List Bool} {nx:Int->List (Option Int)} {G:Int->Prop} {B:Nat} {acc:Int->Bool}
def good (n:Nat) (lv:List Bool) (r:Int):Prop:=0<=r/\r<n/\nth lv r=true
end
end D
namespace D
open Go.RowKit
abbrev CY:=(List Int)×Int×Int×(List Int)×Bool
abbrev MN (x:Int) (j:Nat):Bool:=(nA (jP x (j:Int)) 1)==1
def MO (F:List Int) (set m0:Int):Nat->Int
 | 0=>m0
 | i+1=>if MN set (i+1) then orI (MO F set m0 i) (nth F (i:Int)) else MO F set m0 i
def pick (L:List Int) (m letter:Int):Nat->Int
 | 0=>0
 | i+1=>if nth L (i:Int)=letter/\MN m i=true then orI (pick L m letter i) (rk 1 ((i+1:Nat):Int)) else pick L m letter i
def aft (p:CY) (set letter:Int):Int:=pick p.1 (MO p.2.2.2.1 set (if (nA set 1)==1 then p.2.1 else 0) p.2.2.2.1.length) letter p.1.length
def wL (p:CY) (set:Int):Bool:=if (nA set 1)==1 then (if p.2.2.2.2 then true else (nA (jP set 1) p.2.2.1) !=0) else (nA (jP set 1) p.2.2.1) !=0
theorem wM (i:Nat):chk (0<=(i:Int))=some ():=by unfold chk;rw[if_pos (by omega)]
theorem Mf {p:CY} {set letter:Int} (hl:p.2.2.2.1.length=p.1.length) (hb:p.1.length<=1000000):jX p set letter=some (aft p set letter):=by
 have h0: ∀m0,aF (eT p set) a8 (m0,0)=some (.brk (MO p.2.2.2.1 set m0 p.1.length,(p.1.length:Int))):=fun m0 =>
  ba (f:=eT p set) (fun i=>(MO p.2.2.2.1 set m0 i,(i:Int))) p.1.length (fun i hi=>by
   unfold eT
   simp only
   rw[if_pos (by simp;omega),aE (by omega),wM];simp only[aa]
   rw[MO]
   by_cases c:MN set (i+1)=true
   ·rw[if_pos c,if_pos c,aH (by omega) (by omega)];rfl
   ·rw[if_neg c,if_neg c];rfl) (by unfold eT;simp) (lX (by omega))
 have h1: ∀s7:Int×Int,aF (eU p letter s7) a8 (0,0)=some (.brk (pick p.1 s7.1 letter p.1.length,(p.1.length:Int))):=fun s7 =>
  ba (f:=eU p letter s7) (fun i=>(pick p.1 s7.1 letter i,(i:Int))) p.1.length (fun i hi=>by
   unfold eU
   simp only
   rw[if_pos (by simp;omega),aE (by omega),wM,wM];simp only[aa]
   rw[pick]
   by_cases c:MN s7.1 i=true
   ·rw[if_pos c,aH (by omega) (by omega)];simp only[aa]
    by_cases d:nth p.1 (i:Int)=letter
    ·rw[if_pos (by simpa using d),if_pos ⟨d,c⟩];rfl
    ·rw[if_neg (by simpa using d),if_neg (fun h=>d h.1)];rfl
   ·rw[if_neg c,if_neg (fun h=>c h.2)];rfl) (by unfold eU;simp) (lX (by omega))
 unfold jX aft
 rw[hl]
 by_cases c:((nA set 1)==1)=true
 ·rw[if_pos c,if_pos c];simp only[aa]
  rw[aG (h0 _),aG (h1 _)]
 ·rw[if_neg c,if_neg c];simp only[aa]
  rw[aG (h0 _),aG (h1 _)]
theorem N3 (p:CY) (x:Int):ij p x=some (wL p x):=by
 unfold ij wL
 split <;> (try split) <;> rfl
def nxS (p:CY) (x:Int):List (Option Int):=(List.range 9).map fun k:Nat=>if aft p x (k:Int)=0 then none else some (aft p x (k:Int))
theorem N4 {p:CY} {x:Int} {k:Nat} (hk:k<9):nth (nxS p x) (k:Int)=if aft p x k=0 then none else some (aft p x k):=by
 have:k<(nxS p x).length:=by simp[nxS];omega
 rw[cT this];simp[nxS]
theorem FF (p:CY) (x:Int):(nxS p x).length=9:=by simp[nxS]
theorem JI {κ:Type} [DecidableEq κ] : ∀(l:List κ) (os:List (Option κ)),(nbS l os).length<=l.length+os.length
 | l,[] =>by simp[nbS]
 | l,o::os=>by
  have h:=JI (nbL l o) os
  have h2:(nbL l o).length<=l.length+1:=by
   cases o with
   | none=>simp[nbL]
   | some x=>unfold nbL;simp only;split <;> simp
  show (nbS (nbL l o) os).length<=_
  simp only[au];omega
section
variable {κ:Type} [DecidableEq κ] (nx:κ->List (Option κ)) (first:κ) (acc:κ->Bool) (most:Nat)
def goM:Nat->Nat->AutT×Bool
 | 0,i=>((0,[],[]),false)
 | f+1,i=>if i<(bfS nx first i).length then (if (bfS nx first (i+1)).length>most then ((0,[],[]),false) else goM f (i+1)) else ((0,((bfS nx first i).take i).map acc,bfR nx first i),true)
end
section
variable {κ:Type} [DecidableEq κ] {nx:κ->List (Option κ)} {first:κ} {acc:κ->Bool} {most:Nat}
theorem Ay {i:Nat} (h: ∀j,j<i->j<(bfS nx first j).length):i<=(bfS nx first i).length:=by
 cases i with
 | zero=>omega
 | succ i =>
  have h1:=h i (by omega)
  have h2:=(fm (nx:=nx) (first:=first) i).length_le
  omega
theorem IB {S:Type} {f:S->Option (Out (AutT×Bool) S)} (hm:most<=1000000) (h1:1<=most) (st:Nat->S->Prop)
  (hs: ∀i s,st i s->(∀j,j<i->j<(bfS nx first j).length)->(bfS nx first i).length<=most->i<(bfS nx first i).length->((bfS nx first (i+1)).length>most->f s=some (.ret ((0,[],[]),false)))/\((bfS nx first (i+1)).length<=most-> ∃s',f s=some (.nxt s')/\st (i+1) s'))
  (he: ∀i s,st i s-> ¬i<(bfS nx first i).length->f s=some (.brk s)) {s:S} (h0:st 0 s) :
  (aF f a8 s=some (.ret ((0,[],[]),false))/\goM nx first acc most (most+2) 0=((0,[],[]),false)) \/
  ∃N s',aF f a8 s=some (.brk s')/\st N s'/\bfE nx first N/\N<=most/\goM nx first acc most (most+2) 0=((0,(bfS nx first N).map acc,bfR nx first N),true):=by
 obtain ⟨o,e,hq⟩:=dt (f:=f) (fun i s=>st i s/\(∀j,j<i->j<(bfS nx first j).length)/\(bfS nx first i).length<=most/\goM nx first acc most (most+2) 0=goM nx first acc most (most+2 - i) i)
  (fun o=>(o= .ret ((0,[],[]),false)/\goM nx first acc most (most+2) 0=((0,[],[]),false))\/ ∃N s',o= .brk s'/\st N s'/\bfE nx first N/\N<=most/\goM nx first acc most (most+2) 0=((0,(bfS nx first N).map acc,bfR nx first N),true)) most (s:=s) (by
  rintro i s hi ⟨k1,k2,k3,k4⟩
  have hle:=Ay k2
  rw[show most+2 - i=(most+1 - i)+1 from by omega] at k4
  have k5:goM nx first acc most (most+1 - i+1) i=if i<(bfS nx first i).length then (if (bfS nx first (i+1)).length>most then ((0,[],[]),false) else goM nx first acc most (most+1 - i) (i+1)) else ((0,((bfS nx first i).take i).map acc,bfR nx first i),true):=rfl
  rw[k5] at k4
  by_cases c:i<(bfS nx first i).length
  ·rw[if_pos c] at k4
   obtain ⟨q1,q2⟩:=hs i s k1 k2 k3 c
   by_cases d:(bfS nx first (i+1)).length>most
   ·rw[if_pos d] at k4
    exact .inr ⟨_,q1 d,(fun s' e=>by cases e),.inl ⟨rfl,k4⟩⟩
   ·rw[if_neg d] at k4
    obtain ⟨s',e,hs'⟩:=q2 (by omega)
    exact .inl ⟨by omega,s',e,hs',fun j hj=>(by
     by_cases ej:j=i
     ·subst ej;exact c
     ·exact k2 j (by omega)),by omega,by rw[k4];congr 1;omega⟩
  ·rw[if_neg c] at k4
   refine .inr ⟨_,he i s k1 c,(fun s' e=>by cases e),.inr ⟨i,s,rfl,k1,⟨by omega,k2⟩,hi,?_⟩⟩
   rw[k4,List.take_of_length_le (by omega)]) ⟨h0,fun j hj=>by omega,by simp[bfS];omega,rfl⟩ (lX (by omega))
 rcases hq with ⟨rfl,h⟩ | ⟨N,s',rfl,h⟩
 ·exact .inl ⟨e,h⟩
 ·exact .inr ⟨N,s',e,h⟩
end
section
variable {p:CY} {most:Nat} (hl:p.2.2.2.1.length=p.1.length) (hb:p.1.length<=1000000) (hm:most<=900000) (h1:1<=most)
include hl hb hm h1
theorem IC {l:List Int} {acs:List Bool} {rws:List (List Int)} {i:Nat} (hi:i<l.length) (hle:l.length<=most) :
  aF (dy p (l,(i:Int),0,acs,rws)) a8 (l,[],0)=some (.brk (nbS l (nxS p (nth l (i:Int))),nbR l (nxS p (nth l (i:Int))),9)):=by
 have h9:=FF p (nth l (i:Int))
 have:=ba (f:=dy p (l,(i:Int),0,acs,rws)) (fun k=>(nbS l ((nxS p (nth l (i:Int))).take k),nbR l ((nxS p (nth l (i:Int))).take k),(k:Int))) 9 (fun k hk=>by
  have hpre:=nv l ((nxS p (nth l (i:Int))).take k)
  have hlen:=hpre.length_le
  have hB:=JI l ((nxS p (nth l (i:Int))).take k)
  rw[aA] at hB
  have hrl:(nbR l ((nxS p (nth l (i:Int))).take k)).length<=9:=by rw[nt,aA];omega
  unfold dy
  simp only[lr]
  rw[if_pos (by simp;omega),aH (by omega) (by omega)];simp only[aa]
  rw[qD hpre (by omega) (by omega),Mf hl hb];simp only[aa]
  rw[take_one (by omega),Iq,BM,N4 hk]
  simp only[aE (show k<9223372036854775807 by omega)]
  by_cases c:aft p (nth l (i:Int)) k=0
  ·rw[if_pos c,if_neg (by simp[c])];simp only[aa]
   rw[aR (by simp;omega)];rfl
  ·rw[if_neg c,if_pos (by simpa using c),N2 (by omega)];simp only[aa]
   by_cases d:aft p (nth l (i:Int)) k∈nbS l ((nxS p (nth l (i:Int))).take k)
   ·rw[if_pos d,if_neg (by simp),As d];simp only[aa]
    rw[aR (by simp;omega)];rfl
   ·rw[if_neg d,if_pos (by decide),aR (by simp;omega),Au d];simp only[aa]
    rw[aR (by simp;omega)];simp only[nbI,yJ d,aa]) (by
  unfold dy
  simp) (by unfold a8;omega)
 have e9:(nxS p (nth l (i:Int))).take 9=nxS p (nth l (i:Int)):=List.take_of_length_le (by omega)
 rw[e9] at this
 exact this
theorem Pu:da p most=some (goM (nxS p) 1 (wL p) most (most+2) 0):=by
 unfold da
 rcases IB (nx:=nxS p) (first:=1) (acc:=wL p) (most:=most) (f:=dz p most)
  (by omega) h1 (fun i s=>s=(bfS (nxS p) 1 i,(i:Int),0,((bfS (nxS p) 1 i).take i).map (wL p),bfR (nxS p) 1 i)) (by
   rintro i s rfl hj hle hlt
   have hil:=Ay hj
   have e:=IC hl hb hm h1 (acs:=((bfS (nxS p) 1 i).take i).map (wL p)) (rws:=bfR (nxS p) 1 i) hlt hle
   have hl2:=(fm (nx:=nxS p) (first:=1) i).length_le
   constructor
   ·intro hgt
    unfold dz
    simp only
    rw[if_pos (by simp;omega),aG e,<-yP hlt]
    simp only
    rw[if_pos (by simp;omega)]
   ·intro hle2
    unfold dz
    simp only
    rw[if_pos (by simp;omega),aG e,<-yP hlt]
    simp only
    rw[if_neg (by simp;omega),aH (by omega) (by omega)];simp only[aa]
    rw[qD (fm i) (by omega) (by omega)]
    simp only[lr]
    rw[N3];simp only[aa]
    have hr:(bfR (nxS p) 1 i).length=i:=nw hj
    rw[aR (by simp;omega)];simp only[aa]
    rw[aR (by simp;omega)];simp only[aa,aE (show i<9223372036854775807 by omega)]
    exact ⟨_,rfl,by rw[IA hlt,FE hlt]⟩) (by
   rintro i s rfl hn
   unfold dz
   simp only
   rw[if_neg (by simp;omega)]) (s:=([1],0,0,[],[])) rfl with ⟨e,hg⟩ | ⟨N,s',e,rfl,hN,hNm,hg⟩
 ·rw[cm e,hg]
 ·rw[aG e,hg];simp only
  rw[List.take_of_length_le (by have:=hN.1;omega)]
end
end D
namespace D
open Go.RowKit
def lk (F:List Int) (from_ to_:Int):Nat->List Int
 | 0=>F
 | i+1=>if MN from_ i then (lk F from_ to_ i).set i (orI (nth (lk F from_ to_ i) (i:Int)) to_) else lk F from_ to_ i
theorem vl (F:List Int) (f t:Int): ∀i,(lk F f t i).length=F.length
 | 0=>rfl
 | i+1=>by
  rw[lk]
  split
  ·rw[List.length_set,vl]
  ·exact vl F f t i
theorem JJ {p:CY} {f t:Int} (hl:p.2.2.2.1.length<=1000000):jw p f t=some (p.1,p.2.1,p.2.2.1,lk p.2.2.2.1 f t p.2.2.2.1.length,p.2.2.2.2):=by
 have hL:aF (fG f t) a8 (0,p.2.2.2.1)=some (.brk ((p.2.2.2.1.length:Int),lk p.2.2.2.1 f t p.2.2.2.1.length)):=ba (f:=fG f t) (fun i=>((i:Int),lk p.2.2.2.1 f t i)) p.2.2.2.1.length (fun i hi=>by
  have hk:=vl p.2.2.2.1 f t i
  unfold fG
  simp only
  rw[if_pos (by simp;omega),wM];simp only[aa]
  rw[lk,aE (by omega)]
  by_cases c:MN f i=true
  ·rw[if_pos c,if_pos c,aH (by omega) (by omega)];simp only[aa,Int.toNat_natCast]
  ·rw[if_neg c,if_neg c];rfl) (by unfold fG;simp[vl]) (lX (by omega))
 unfold jw
 rw[aG hL]
def FG (e:List Tok):Nat->Nat
 | 0=>0
 | i+1=>if (nth e (i:Int)).1=3 then FG e i+1 else FG e i
theorem FH (e:List Tok): ∀i,FG e i<=i
 | 0=>aB _
 | i+1=>by
  have:=FH e i
  rw[FG];split <;> omega
theorem Pv {r:List Tok×Bool} (hl:r.1.length<=1000000):aF (cf r) a8 (0,0)=some (.brk ((FG r.1 r.1.length:Int),(r.1.length:Int))):=
 ba (f:=cf r) (fun i=>((FG r.1 i:Int),(i:Int))) r.1.length (fun i hi=>by
  have:=FH r.1 i
  unfold cf
  simp only
  rw[if_pos (by simp;omega),aH (by omega) (by omega)];simp only[aa]
  rw[FG,aE (show i<9223372036854775807 by omega),aE (show FG r.1 i<9223372036854775807 by omega)]
  by_cases c:(nth r.1 (i:Int)).1=3
  ·rw[if_pos (by simpa using c),if_pos c];rfl
  ·rw[if_neg (by simpa using c),if_neg c];rfl) (by unfold cf;simp) (lX (by omega))
end D
namespace D
open Go.RowKit
end D
namespace D
open Go.RowKit
theorem Mg {κ:Type} [DecidableEq κ] {l:List κ} {y:κ} (h:y∈l): ∃(q:Nat) (hq:q<l.length),nbI l (some y)=(q:Int)/\l[q] =y:=
 ⟨l.idxOf y,List.idxOf_lt_length_of_mem h,rfl,by simp⟩
theorem Mh {κ:Type} [DecidableEq κ] {l:List κ} {y:κ} (h:y∉l):nbI l (some y)=(l.length:Int):=by simp only[nbI,yJ h]
theorem Az (xs ys:List Int) (hN:xs.length<=1048576): ∃r,kS xs ys=some r/\(r=0↔xs=ys):=by
 unfold kS
 have h0:=NV (f:=jY xs ys) xs ys (fun i h h'=>by
  simp only[jY,iN h,iN h',if_true,bm h,bm h',aa,aE (show i<9223372036854775807 by omega)]
  by_cases h1:xs[i] < ys[i]
  ·simp[h1]
  ·by_cases h2:xs[i] > ys[i]
   ·simp[h1,h2]
   ·simp[h1,h2]) (fun i hi=>by
  simp only[jY]
  by_cases h1:i<xs.length
  ·have h2: ¬i<ys.length:=by omega
   simp[h1,h2]
  ·simp[h1]) xs.length 0 a8 (by omega) (ld _ (by omega))
 rw[show (((0:Nat):Int))=(0:Int) from rfl] at h0
 rcases h0 with ⟨r,e,h1,h2⟩ | ⟨s,e,h1⟩
 ·exact ⟨r,by rw[e];rfl,by simp[h1,h2]⟩
 ·rw[e]
  simp only[aU]
  by_cases c1:xs.length<ys.length
  ·exact ⟨-1,by simp[c1],by simp;intro e;subst e;omega⟩
  ·by_cases c2:xs.length>ys.length
   ·exact ⟨1,by simp[c1,c2],by simp;intro e;subst e;omega⟩
   ·exact ⟨0,by simp[c1,c2],by simpa using h1 (by omega)⟩
theorem tH (xs ys:List Int) (hN:xs.length<=9223372036854775807):bA xs ys=some (decide (xs=ys)):=
 eqL (f:=bH xs ys) xs ys hN (fun i h h'=>by
  simp only[bH,iN h,if_true,bm h,bm h',aa,aE (show i<9223372036854775807 by omega)]
  by_cases c:xs[i] =ys[i] <;> simp[c]) (by simp only[bH,gO];rfl)
def ent (a:AutT) (c:List Int) (s:Int) (k:Nat):Int:=if mv a s k<0 then -1 else nth c (mv a s k)
section
variable {a:AutT} {n:Nat}
end
end D
namespace D
open Go.RowKit
section
variable {a:AutT} {n:Nat} {c:List Int}
section
variable (V:VA a n) (hn:n<=1000000) (hc:c.length=n)
include V hn hc
end
end
section
variable {a:AutT} {n:Nat} (V:VA a n) (hn:n<=1000000)
include V hn
end
end D
namespace D
open Go.RowKit
section
variable {κ:Type} [DecidableEq κ] [Inhabited κ] {nx:κ->List (Option κ)} {first:κ} {G:κ->Prop} {B N:Nat} {acc:κ->Bool}
theorem tI: ∀(l:List κ) (os:List (Option κ)),∀t∈nbR l os,-1<=t/\t<((nbS l os).length:Int)
 | l,[] =>fun t ht=>by cases ht
 | l,o::os=>fun t ht=>by
  have hp:=nv (nbL l o) os
  have hl:=hp.length_le
  rcases ax ht with rfl | ht
  ·show -1<=nbI l o/\nbI l o<((nbS (nbL l o) os).length:Int)
   cases o with
   | none=>exact ⟨by simp[nbI],by simp only[nbI];omega⟩
   | some y =>
    by_cases c:y∈l
    ·obtain ⟨q,hq,e,-⟩:=Mg c
     rw[As c] at hl
     rw[e];exact ⟨by omega,by rw[As c];omega⟩
    ·rw[Au c] at hl
     rw[Mh c];rw[al] at hl
     exact ⟨by omega,by rw[Au c];simp at hl;omega⟩
  ·exact tI (nbL l o) os t ht
theorem Qf (H:NumOk nx first G B) (hN:bfE nx first N):VA ((0,(bfS nx first N).map acc,bfR nx first N):AutT) N:=by
 have h0:0<N:=by
  have:=yL (nx:=nx) (first:=first) N
  have:=(List.getElem?_eq_some_iff.1 this).1
  have:=hN.1;omega
 have key: ∀i,i<=N-> ∀r∈bfR nx first i,r.length=9/\ ∀t∈r,-1<=t/\t<(N:Int):=by
  intro i
  induction i with
  | zero=>intro _ r hr;cases hr
  | succ i ih =>
   intro hi r hr
   have hlt:=hN.2 i (by omega)
   rw[rH hlt] at hr
   rcases aD hr with hr | hr
   ·exact ih (by omega) r hr
   ·obtain rfl:=aw hr
    refine ⟨by rw[nt,H.len _ (pN H.g0 H.gn i _ (List.getElem_mem hlt))],fun t ht=>?_⟩
    have:=tI _ _ t ht
    rw[<-wH hlt] at this
    have hl:=(qB (nx:=nx) (first:=first) hi).length_le
    have:=hN.1
    omega
 exact ⟨by show ((bfS nx first N).map acc).length=N;rw[List.length_map];exact hN.1.symm,⟨Int.le_refl _,by show (0:Int)<N;omega⟩,nw hN.2,fun r hr=>(key N (aB _) r hr).1,fun r hr=>(key N (aB _) r hr).2⟩
theorem Mi (hlen: ∀x,(nx x).length=9) (hN:bfE nx first N):VA ((0,(bfS nx first N).map acc,bfR nx first N):AutT) N:=by
 have h0:0<N:=by
  have:=yL (nx:=nx) (first:=first) N
  have:=(List.getElem?_eq_some_iff.1 this).1
  have:=hN.1;omega
 have key: ∀i,i<=N-> ∀r∈bfR nx first i,r.length=9/\ ∀t∈r,-1<=t/\t<(N:Int):=by
  intro i
  induction i with
  | zero=>intro _ r hr;cases hr
  | succ i ih =>
   intro hi r hr
   have hlt:=hN.2 i (by omega)
   rw[rH hlt] at hr
   rcases aD hr with hr | hr
   ·exact ih (by omega) r hr
   ·obtain rfl:=aw hr
    refine ⟨by rw[nt,hlen _],fun t ht=>?_⟩
    have:=tI _ _ t ht
    rw[<-wH hlt] at this
    have hl:=(qB (nx:=nx) (first:=first) hi).length_le
    have:=hN.1
    omega
 exact ⟨by show ((bfS nx first N).map acc).length=N;rw[List.length_map];exact hN.1.symm,⟨Int.le_refl _,by show (0:Int)<N;omega⟩,nw hN.2,fun r hr=>(key N (aB _) r hr).1,fun r hr=>(key N (aB _) r hr).2⟩
end
end D
namespace D
open Go.RowKit
theorem FI {κ:Type} [DecidableEq κ] {nx:κ->List (Option κ)} {first:κ} {acc:κ->Bool} {most:Nat} : ∀(f i:Nat),(∀j,j<i->j<(bfS nx first j).length)->(bfS nx first i).length<=most->goM nx first acc most f i=((0,[],[]),false)\/ ∃N,bfE nx first N/\N<=most/\goM nx first acc most f i=((0,(bfS nx first N).map acc,bfR nx first N),true)
 | 0,i,_,_=>.inl rfl
 | f+1,i,h,hl=>by
  have hle:=Ay h
  rw[goM]
  by_cases c:i<(bfS nx first i).length
  ·rw[if_pos c]
   by_cases d:(bfS nx first (i+1)).length>most
   ·rw[if_pos d];exact .inl rfl
   ·rw[if_neg d]
    exact FI f (i+1) (fun j hj=>by
     by_cases e:j=i
     ·subst e;exact c
     ·exact h j (by omega)) (by omega)
  ·rw[if_neg c]
   exact .inr ⟨i,⟨by omega,h⟩,by omega,by rw[List.take_of_length_le (by omega)]⟩
end D
namespace D
open Go.RowKit
def Qg (x:Tr Tok):Prop:= ∀(n:Nat) (p:CY),(flat x).length<=n->p.2.2.2.1.length=p.1.length->p.1.length+(flat x).length<=100000->
 ∃(nu:Bool) (fi la:Int) (q:CY),cd n p (flat x)=some ((nu,fi,la),q)/\q.2.2.2.1.length=q.1.length/\q.1.length<=p.1.length+(flat x).length
theorem ID {x:Tr Tok} (h:WT x):Qg x:=by
 refine WT.ind (p:=Qg) ?_ ?_ ?_ h
 ·intro t e n p hn hF hl
  rw[Av] at hn hl⊢
  simp only[au,aC] at hl
  match n,hn with
  | n+1,_ =>
   rw[cd]
   have:=(iZ (A:=[]) (t:=t) (by simp)).1
   rw[List.nil_append] at this
   rw[this];simp only[aa,lr]
   rcases lY (show 0<=ar t by omega) with ⟨k,_⟩ | ⟨k,_⟩ | ⟨_,k⟩
   ·omega
   ·omega
   rcases k with k | k | k
   ·exact ⟨false,0,0,p,by simp[k],hF,by simp⟩
   ·exact ⟨true,0,0,p,by simp[k],hF,by simp⟩
   ·refine ⟨false,rk 1 (p.1.length:Int),rk 1 (p.1.length:Int),(p.1++ [t.2.1],p.2.1,p.2.2.1,p.2.2.2.1++ [0],p.2.2.2.2),?_,by simp[hF],by simp⟩
    rw[if_neg (by simp[k]),if_pos (by simp[k]),aR (by simp;omega)];simp only[aa]
    rw[aR (by simp;omega)];rfl
 ·intro t a e wa ih n p hn hF hl
  rw[CW] at hn hl⊢
  simp only[al,au,aC] at hn hl
  match n,hn with
  | n+1,hn =>
   rw[cd];simp only[lr]
   obtain ⟨l1,l2⟩:=iZ (A:=flat a) (t:=t) (by omega)
   rw[l1];simp only[aa]
   obtain ⟨nu,fi,la,q,hs,hq1,hq2⟩:=ih n p (by omega) hF (by omega)
   rcases Md e with ⟨k1,k2⟩ | ⟨k1,k2,k3⟩
   ·have g2:(t.1==2)=false:=by simp[k2]
    have g3:(t.1==3)=false:=by simp[k2]
    have g4:(t.1==4)=false:=by simp[k2]
    have g5:(t.1==5)=false:=by simp[k2]
    simp only[g2,g3,g4,g5,k1,Bool.false_eq_true,if_false,if_true]
    rw[l2,Int.toNat_natCast,List.take_left,chk_of (by simp only[al,au,aC];omega)];simp only[aa]
    rw[hs];simp only[aa,lr]
    rw[JJ (by omega)];simp only[aa]
    refine ⟨true,fi,la,_,rfl,?_,?_⟩
    ·simp only[vl];exact hq1
    ·simp only[al,au,aC];omega
   ·have g2:(t.1==2)=false:=by simp[k3]
    have g3:(t.1==3)=false:=by simp[k3]
    have g4:(t.1==4)=false:=by simp[k3]
    have g5:(t.1==5)=false:=by simp[k3]
    simp only[g2,g3,g4,g5,k1,Bool.false_eq_true,if_false]
    exact ⟨false,0,0,p,rfl,hF,by omega⟩
 ·intro t a b e wa wb iha ihb n p hn hF hl
  rw[rj] at hn hl⊢
  have hl2:((flat a++flat b)++ [t]).length<=1000000:=by omega
  obtain ⟨p1,p2,p3,p4⟩:=tF (a:=a) (t:=t) wb hl2
  simp only[al,au,aC] at hn hl
  match n,hn with
  | n+1,hn =>
   have hpa:=wa.pos
   have hpb:=wb.pos
   rw[cd];simp only[lr]
   obtain ⟨l1,l2⟩:=iZ (A:=flat a++flat b) (t:=t) (by rw[al];omega)
   rw[l1];simp only[aa]
   obtain ⟨nu,fi,la,q,hs,hq1,hq2⟩:=iha n p (by omega) hF (by omega)
   obtain ⟨nu2,fi2,la2,q2,hs2,hq3,hq4⟩:=ihb n q (by omega) hq1 (by omega)
   rcases lY (show 0<=ar t by omega) with ⟨_,k⟩ | ⟨k,_⟩ | ⟨k,_⟩
   ·rcases k with k | k
    ·have g2:(t.1==2)=false:=by simp[k]
     have g3:(t.1==3)=false:=by simp[k]
     have g4:(t.1==4)=true:=by simp[k]
     have g5:(t.1==5)=false:=by simp[k]
     simp only[g2,g3,g4,g5,Bool.false_eq_true,if_false,if_true]
     rw[l2,p1,p2,chk_of (by simp only[al,au,aC];omega)];simp only[aa]
     rw[chk_of (by simp only[al,au,aC];omega),p3,p4,hs];simp only[aa]
     rw[chk_of (by simp only[al,au,aC];omega)];simp only[aa,lr]
     rw[hs2];simp only[aa,lr]
     rw[JJ (by omega)];simp only[aa]
     refine ⟨nu&&nu2,if nu then orI fi fi2 else fi,if nu2 then orI la la2 else la2,(q2.1,q2.2.1,q2.2.2.1,lk q2.2.2.2.1 la fi2 q2.2.2.2.1.length,q2.2.2.2.2),?_,?_,?_⟩
     ·cases nu <;> cases nu2 <;> rfl
     ·simp only[vl];exact hq3
     ·simp only[al,au,aC];omega
    ·have g2:(t.1==2)=false:=by simp[k]
     have g3:(t.1==3)=false:=by simp[k]
     have g4:(t.1==4)=false:=by simp[k]
     have g5:(t.1==5)=true:=by simp[k]
     simp only[g2,g3,g4,g5,Bool.false_eq_true,if_false,if_true]
     rw[l2,p1,p2,chk_of (by simp only[al,au,aC];omega)];simp only[aa]
     rw[chk_of (by simp only[al,au,aC];omega),p3,p4,hs];simp only[aa]
     rw[chk_of (by simp only[al,au,aC];omega)];simp only[aa,lr]
     rw[hs2];simp only[aa,lr]
     refine ⟨nu || nu2,orI fi fi2,orI la la2,q2,?_,hq3,?_⟩
     ·cases nu <;> simp
     ·simp only[al,au,aC];omega
   ·omega
   ·omega
theorem FJ {e:List Tok} (he:e.length<=1048576):ig e=some (C9 e):=by
 have hF:=pP
 unfold ig C9
 rw[Aw he];simp only[aa]
 by_cases c:(decide (e.length<=24)&&isX e)=true
 ·rw[if_pos c,if_pos c]
  rw[af] at c
  obtain ⟨x,h1,hw,rfl⟩:=JG c.2
  have h24:(flat x).length<=24:=by simpa using c.1
  have hr:=fN hw
  rw[vk hw,NY hw jO (by omega) (by omega)];simp only[aa]
  by_cases c2:5000<szX x
  ·simp only[gt_iff_lt,c2,decide_true,if_true]
  ·simp only[gt_iff_lt,c2,decide_false,if_false,Bool.false_eq_true]
   have hl:=wK hw (by omega)
   rw[Iz hw jO (by omega) (by omega) (by omega)];simp only[aa]
   by_cases c3:400<(flat (qC x)).length
   ·have c3':decide (((flat (qC x)).length:Int)>400)=true:=decide_eq_true (by omega)
    simp only[c3',c3,if_true]
   ·have c3':decide (((flat (qC x)).length:Int)>400)=false:=decide_eq_false (by omega)
    simp only[c3',c3,if_false,Bool.false_eq_true]
 ·rw[if_neg c,if_neg c]
theorem AA {e:List Tok} (he:e.length<=1048576): ∃r:CY×Bool,eD e=some r/\r.1.2.2.2.1.length=r.1.1.length/\r.1.1.length<=400:=by
 have hF:=pP
 unfold eD
 rw[FJ he];simp only[aa]
 by_cases c:(C9 e).2=true
 ·obtain ⟨y,wy,ey,ly⟩:=Me c
  rw[if_pos c,aG (Pv (by rw[ey];omega))]
  simp only
  by_cases d:(FG (C9 e).1 (C9 e).1.length:Int)>20
  ·have d':decide ((FG (C9 e).1 (C9 e).1.length:Int)>20)=true:=decide_eq_true d
   simp only[d',if_true]
   exact ⟨_,rfl,rfl,by simp⟩
  ·have d':decide ((FG (C9 e).1 (C9 e).1.length:Int)>20)=false:=decide_eq_false d
   simp only[d',Bool.false_eq_true,if_false]
   rw[ey]
   obtain ⟨nu,fi,la,q,hs,hq1,hq2⟩:=ID wy jO ([],0,0,[],false) (by omega) rfl (by simp;omega)
   rw[hs];simp only[aa]
   exact ⟨_,rfl,hq1,by simp at hq2;show q.1.length<=_;omega⟩
 ·rw[if_neg c]
  exact ⟨_,rfl,rfl,by simp⟩
theorem FK {p:CY} (h1:p.2.2.2.1.length=p.1.length) (h2:p.1.length<=100000): ∃r:AutT×Bool,da p 12=some r/\(r.2=true-> ∃N,N<=12/\bfE (nxS p) 1 N/\r.1=(0,(bfS (nxS p) 1 N).map (wL p),bfR (nxS p) 1 N)/\VA r.1 N):=by
 have d1:=Pu (p:=p) (most:=12) h1 (by omega) (by omega) (by omega)
 have d1:da p 12=_:=d1
 rw[d1]
 rcases FI (nx:=nxS p) (first:=1) (acc:=wL p) (most:=12) (12+2) 0 (fun j hj=>by omega) (by simp[bfS]) with e | ⟨N,hN,hNm,e⟩
 ·exact ⟨_,rfl,fun h=>by rw[e] at h;cases h⟩
 ·rw[e]
  have V:=Mi (acc:=wL p) (FF p) hN
  exact ⟨_,rfl,fun _=>⟨N,hNm,hN,rfl,V⟩⟩
end D
namespace D
open Go.RowKit
def BQ:List ByteArray:=[⟨#[97]⟩,⟨#[97,32,98,32,46]⟩,⟨#[97,32,42]⟩,⟨#[97,32,98,32,124,32,42]⟩,⟨#[97,32,97,45,32,46]⟩,⟨#[97,32,42,32,98,32,46]⟩,⟨#[97,32,98,32,42,32,46,32,99,32,46]⟩,⟨#[97,32,97,32,124,32,42]⟩,⟨#[97,32,98,32,46,32,42]⟩,⟨#[48,32,97,32,46,32,42]⟩,⟨#[97,32,49,32,46,32,98,32,46]⟩,⟨#[97,32,123,48,44,50,125]⟩,⟨#[97,32,98,32,124,32,123,49,44,51,125]⟩,⟨#[40,41]⟩,⟨#[33]⟩,⟨#[97,45,32,42,32,97,32,46]⟩,⟨#[97,32,98,45,32,46,32,42,32,99,32,124]⟩,⟨#[97,32,42,32,97,32,42,32,46]⟩,⟨#[97,32,48,32,124,32,42,32,98,32,46]⟩,⟨#[97,32,97,32,46,32,42]⟩,⟨#[97,32,98,32,46,32,98,32,97,32,46,32,124,32,42]⟩]
def FL (t:ByteArray):Bool:=match fw t with
 | some r=>r.2&&Nat.ble 1 r.1.length&&Nat.ble r.1.length 24
 | none=>false
theorem FM:BQ.all FL=true:=by kernel_rfl
theorem IE {t:ByteArray} (h:t∈BQ): ∃r:List Tok×Bool,fw t=some r/\r.2=true/\1<=r.1.length/\r.1.length<=24:=by
 have h1:FL t=true:=List.all_eq_true.1 FM t h
 unfold FL at h1
 split at h1
 ·rename_i r hr
  rw[af,af] at h1
  exact ⟨r,hr,h1.1.1,bf h1.1.2,bf h1.2⟩
 ·cases h1
section
variable {xs:List Int} {i h:Int}
theorem Mj (hl:xs.length<=1048576) (hc:gl xs i): ∃r:List Tok×Int×Int,lH (xs,i,h)=some r/\(1<=r.1.length/\r.1.length<=24)/\gl xs r.2.1:=by
 obtain ⟨r,e,h1,k⟩:=NW (h:=h) hl hc (l:=BQ) (by unfold BQ;simp)
 obtain ⟨q,e2,-,h2⟩:=IE h1
 unfold lH
 have hb:=congrArg (fun o:Option (ByteArray×Int×Int)=>Option.bind o (fun r0:ByteArray×Int×Int=>(fw r0.1).bind fun r1=>some (r1.1,r0.2.1,r0.2.2))) e
 refine ⟨(q.1,r.2.1,r.2.2),hb.trans ?_,h2,k⟩
 show (fw r.1).bind _=_
 rw[e2];rfl
theorem yQ (hl:xs.length<=1048576): ∀(d n:Nat) (i h:Int),d<n->d<=3->gl xs i-> ∃r:List Tok×Int×Int,cr n (xs,i,h) (d:Int)=some r/\(1<=r.1.length/\r.1.length+1<=2 ^ (d+1))/\gl xs r.2.1
 | 0,n+1,i,h,_,_,hc=>by
  rw[cr];simp only
  rw[if_pos (by decide)]
  obtain ⟨r,e,k⟩:=ma (h:=h) hl hc (n:=12) (by omega)
  rw[e];simp only[aa]
  by_cases c:r.1=true
  ·rw[if_pos c]
   obtain ⟨q,e2,-,k2⟩:=cn (h:=r.2.2) hl k (l:=[1,2]) (by simp)
   rw[e2];simp only[aa]
   exact ⟨_,rfl,⟨aB _,aB _⟩,k2⟩
  ·rw[if_neg c]
   obtain ⟨q,e2,-,k2⟩:=cn (h:=r.2.2) hl k (l:=[0,0,2,2,1,4,3,6,7]) (by simp)
   rw[e2];simp only[aa]
   exact ⟨_,rfl,⟨aB _,aB _⟩,k2⟩
 | d+1,n+1,i,h,hd,h3,hc=>by
  have hp:2 ^ (d+1+1)=2*2 ^ (d+1):=by rw[Nat.pow_succ,Nat.mul_comm]
  have hb:2 ^ (d+1)<=8:=by
   have:d<=2:=by omega
   match d,this with
   | 0,_=>decide
   | 1,_=>decide
   | 2,_=>decide
  rw[cr];simp only
  rw[if_neg (by simp;omega)]
  have hw:IntKind.i64.wrap (((d+1:Nat):Int) - 1)=(d:Int):=by rw[br (by omega) (by omega)];omega
  rw[hw]
  obtain ⟨r,e,-,k⟩:=bD (h:=h) hl hc (n:=6) (by omega)
  rw[e];simp only[aa]
  have two: ∀(t:Tok) (i h:Int),gl xs i-> ∃r:List Tok×Int×Int,((cr n (xs,i,h) (d:Int)).bind fun r7=>(cr n (xs,r7.2.1,r7.2.2) (d:Int)).bind fun r8=>(cG r7.1 r8.1 t).bind fun r9=>some (r9,r8.2.1,r8.2.2))=some r/\(1<=r.1.length/\r.1.length+1<=2 ^ (d+1+1))/\gl xs r.2.1:=fun t i h hc=>by
   obtain ⟨r7,e7,h7,k7⟩:=yQ hl d n i h (by omega) (by omega) hc
   rw[e7];simp only[aa]
   obtain ⟨r8,e8,h8,k8⟩:=yQ hl d n r7.2.1 r7.2.2 (by omega) (by omega) k7
   rw[e8];simp only[aa]
   rw[tG (by omega)];simp only[aa]
   refine ⟨_,rfl,?_,k8⟩
   simp only[al,au,aC]
   omega
  have one: ∀(t:Tok) (i h:Int),gl xs i-> ∃r:List Tok×Int×Int,((cr n (xs,i,h) (d:Int)).bind fun r14=>(cG r14.1 ([] :List Yq1) t).bind fun r15=>some (r15,r14.2.1,r14.2.2))=some r/\(1<=r.1.length/\r.1.length+1<=2 ^ (d+1+1))/\gl xs r.2.1:=fun t i h hc=>by
   obtain ⟨r7,e7,h7,k7⟩:=yQ hl d n i h (by omega) (by omega) hc
   rw[e7];simp only[aa]
   rw[tG (by simp only[aC];omega)];simp only[aa]
   refine ⟨_,rfl,?_,k7⟩
   simp only[al,au,aC]
   omega
  have if2: ∀(p q:Bool),(if p then (some p) else (some q):Option Bool)=some (p || q):=fun p q=>by cases p <;> rfl
  rw[if2];simp only[aa]
  by_cases c1:(r.1==0 || r.1==1)=true
  ·rw[if_pos c1]
   exact two _ _ _ k
  ·rw[if_neg c1,if2];simp only[aa]
   by_cases c2:(r.1==2 || r.1==3)=true
   ·rw[if_pos c2]
    exact two _ _ _ k
   ·rw[if_neg c2]
    by_cases c3:(r.1==4)=true
    ·rw[if_pos c3]
     exact one _ _ _ k
    ·rw[if_neg c3]
     obtain ⟨q,e2,h2,k2⟩:=bD (h:=r.2.2) hl k (n:=3) (by omega)
     rw[e2];simp only[aa]
     obtain ⟨r7,e7,h7,k7⟩:=yQ hl d n q.2.1 q.2.2 (by omega) (by omega) k2
     rw[e7];simp only[aa]
     have w:IntKind.i64.wrap (IntKind.i64.wrap (1+q.1)+1)=q.1+2:=by
      rw[br (n:=1+q.1) (by omega) (by omega),br (by omega) (by omega)];omega
     obtain ⟨u,e3,-,k3⟩:=bD (h:=r7.2.2) hl k7 (n:=q.1+2) (by omega)
     rw[w,e3];simp only[aa]
     rw[tG (by simp only[aC];omega)];simp only[aa]
     refine ⟨_,rfl,?_,k3⟩
     simp only[al,au,aC]
     omega
theorem N5 (hl:xs.length<=1048576) (hc:gl xs i): ∃r:List Tok×Int×Int,nk (xs,i,h)=some r/\(1<=r.1.length/\r.1.length<=24)/\gl xs r.2.1:=by
 have hF:=pP
 unfold nk
 simp only
 obtain ⟨r,e,k⟩:=ma (h:=h) hl hc (n:=2) (by omega)
 rw[e];simp only[aa]
 by_cases c:r.1=true
 ·rw[if_pos c]
  obtain ⟨q,e2,h2,k2⟩:=Mj (h:=r.2.2) hl k
  rw[e2]
  exact ⟨_,rfl,h2,k2⟩
 ·rw[if_neg c]
  obtain ⟨q,e2,h2,k2⟩:=bD (h:=r.2.2) hl k (n:=3) (by omega)
  rw[e2];simp only[aa]
  have w:IntKind.i64.wrap (1+q.1)=(((q.1.toNat+1:Nat)):Int):=by rw[br (by omega) (by omega)];omega
  obtain ⟨u,e3,h3,k3⟩:=yQ hl (q.1.toNat+1) jO q.2.1 q.2.2 (by omega) (by omega) k2
  rw[w,e3]
  refine ⟨_,rfl,⟨h3.1,?_⟩,k3⟩
  have:q.1.toNat<=2:=by omega
  have h4:=h3.2
  show u.1.length<=24
  generalize q.1.toNat=z at this h4
  match z,this with
  | 0,_=>simp at h4;omega
  | 1,_=>simp at h4;omega
  | 2,_=>simp at h4;omega
def AutD (a:AutT):Prop:=(1<=a.2.1.length/\a.2.1.length<=12)/\(1<=a.2.2.length/\a.2.2.length<=12)/\ ∀r∈a.2.2,r.length=9
theorem AutD.sm {a:AutT} (h:AutD a):Data.sm a:=⟨trivial,⟨by have:=h.1.2;omega,fun _ _=>trivial⟩,by have:=h.2.1.2;omega,fun r hr=>⟨by rw[h.2.2 r hr];decide,fun _ _=>trivial⟩⟩
theorem VA.autD {a:AutT} {n:Nat} (V:VA a n) (hn:n<=12):AutD a:=by
 have h0:=V.pos
 have h1:=V.len
 have h2:=V.nlen
 exact ⟨by omega,by omega,V.row⟩
theorem Pw (hl:xs.length<=1048576) {p:List Int×Int×Int} {r0:Int×Int×Int} (hp:p.1=xs) (hr:0<=r0.1/\r0.1<4) (hc:gl xs i): ∃s,aF (dS p r0) a8 (([] :List Int),0,i,h)=some (.brk s)/\s.1.length=9/\gl xs s.2.2.1:=by
 have w:IntKind.i64.wrap (1+r0.1)=1+r0.1:=br (by omega) (by omega)
 obtain ⟨s,e,h1,h2,h3⟩:=lf (f:=dS p r0) (fun j s=>s.2.1=(j:Int)/\s.1.length=j/\gl xs s.2.2.1) 9 (fun j s hj hI=>by
  obtain ⟨h1,h2,h3⟩:=hI
  unfold dS
  rw[h1,hp,if_pos (by simp;omega)]
  obtain ⟨r,e,k⟩:=ma (h:=s.2.2.2) hl h3 (n:=3) (by omega)
  rw[e];simp only[aa]
  have key: ∃q:Int×Int×Int,(if r.1 then (some ((-1),r.2.1,r.2.2)) else ((aJ (xs,r.2.1,r.2.2) (IntKind.i64.wrap (1+r0.1))).bind fun r8=>some (r8.1,r8.2.1,r8.2.2)):Option (Int×Int×Int))=some q/\gl xs q.2.1:=by
   by_cases c:r.1=true
   ·rw[if_pos c];exact ⟨_,rfl,k⟩
   ·rw[if_neg c,w]
    obtain ⟨q,e2,-,k2⟩:=bD (h:=r.2.2) hl k (n:=1+r0.1) (by omega)
    rw[e2];exact ⟨_,rfl,k2⟩
  obtain ⟨q,e2,k2⟩:=key
  rw[e2];simp only[aa]
  have e4: ∃z:Int,(if decide ((j:Int)>3) then (some (-1)) else (some q.1):Option Int)=some z:=by
   by_cases c:decide ((j:Int)>3)=true
   ·exact ⟨_,if_pos c⟩
   ·exact ⟨_,if_neg c⟩
  obtain ⟨z,e4⟩:=e4
  rw[e4];simp only[aa]
  rw[aR (by simp only[au,aC];omega)];simp only[aa]
  refine ⟨_,rfl,?_,?_,k2⟩
  ·show IntKind.i64.wrap ((j:Int)+1)=((j+1:Nat):Int)
   rw[br (by omega) (by omega)];omega
  ·simp only[al,au,aC];omega) (fun s hI=>by
  unfold dS
  rw[hI.1,if_neg (by simp)]
  obtain ⟨a,b,c,d⟩:=s
  obtain rfl:b=_:=hI.1
  rfl) (s:=(([] :List Int),0,i,h)) ⟨rfl,rfl,hc⟩ (lX (by omega))
 exact ⟨s,e,h2,h3⟩
theorem BR (hl:xs.length<=1048576) (hc:gl xs i): ∃r:AutT×Int×Int,gz (xs,i,h)=some r/\AutD r.1/\gl xs r.2.1:=by
 unfold gz
 simp only
 obtain ⟨r0,e0,h0,k0⟩:=bD (h:=h) hl hc (n:=4) (by omega)
 rw[e0];simp only[aa]
 have w:IntKind.i64.wrap (1+r0.1)=((r0.1.toNat+1:Nat):Int):=by rw[br (by omega) (by omega)];omega
 obtain ⟨r1,e1,-,k1⟩:=bD (h:=r0.2.2) hl k0 (n:=((r0.1.toNat+1:Nat):Int)) (by omega)
 rw[w,e1];simp only[aa]
 obtain ⟨s,e,h1,h2,h3,h4,h5⟩:=lf (f:=fO (xs,i,h) r0) (fun j s=>s.1=(j:Int)/\s.2.2.1.length=j/\s.2.2.2.1.length=j/\(∀r∈s.2.2.2.1,r.length=9)/\gl xs s.2.2.2.2.1) (r0.1.toNat+1) (fun j s hj hI=>by
  obtain ⟨h1,h2,h3,h4,h5⟩:=hI
  unfold fO
  rw[h1,w,if_pos (by simp;omega)]
  obtain ⟨q,e,hq,k⟩:=Pw (p:=(xs,i,h)) (r0:=r0) (i:=s.2.2.2.2.1) (h:=s.2.2.2.2.2) hl rfl h0 h5
  rw[aG e]
  simp only
  obtain ⟨o,e2,k2⟩:=ma (h:=q.2.2.2) hl k (n:=3) (by omega)
  rw[e2];simp only[aa]
  rw[aR (by simp only[au,aC];omega)];simp only[aa]
  rw[aR (by simp only[au,aC];omega)];simp only[aa]
  refine ⟨_,rfl,?_,by simp[h2],by simp[h3],fun r hr=>?_,k2⟩
  ·show IntKind.i64.wrap ((j:Int)+1)=((j+1:Nat):Int)
   rw[br (by omega) (by omega)];omega
  ·rcases aD hr with hr | hr
   ·exact h4 r hr
   ·obtain rfl:=aw hr
    exact hq) (fun s hI=>by
  unfold fO
  rw[hI.1,w,if_neg (by simp)]
  obtain ⟨a,b⟩:=s
  obtain rfl:a=_:=hI.1
  rfl) (s:=(0,r1.1,([] :List Bool),([] :List (List Int)),r1.2.1,r1.2.2)) ⟨rfl,rfl,rfl,fun r hr=>(by cases hr),k1⟩ (lX (by omega))
 rw[aG e]
 refine ⟨_,rfl,⟨?_,?_,h4⟩,h5⟩
 ·show 1<=s.2.2.1.length/\s.2.2.1.length<=12
  omega
 ·show 1<=s.2.2.2.1.length/\s.2.2.2.1.length<=12
  omega
theorem N6 (hl:xs.length<=1048576) (hc:gl xs i): ∃r:AutT×Int×Int,kL (xs,i,h)=some r/\AutD r.1/\gl xs r.2.1:=by
 unfold kL
 simp only
 obtain ⟨r,e,k⟩:=ma (h:=h) hl hc (n:=3) (by omega)
 rw[e];simp only[aa]
 by_cases c:r.1=true
 ·rw[if_pos c]
  obtain ⟨q,e2,h2,k2⟩:=BR (h:=r.2.2) hl k
  rw[e2]
  exact ⟨_,rfl,h2,k2⟩
 ·rw[if_neg c]
  obtain ⟨q,e2,h2,k2⟩:=N5 (h:=r.2.2) hl k
  rw[e2];simp only[aa]
  obtain ⟨p,e3,p1,p2⟩:=AA (e:=q.1) (by omega)
  rw[e3];simp only[aa]
  obtain ⟨a,e4,h4⟩:=FK (p:=p.1) p1 (by omega)
  have e4:da (p.1.1,p.1.2.1,p.1.2.2.1,p.1.2.2.2.1,p.1.2.2.2.2) 12=some a:=e4
  rw[e4];simp only[aa]
  by_cases c2:a.2=true
  ·rw[if_pos c2]
   obtain ⟨N,hN,-,-,V⟩:=h4 c2
   exact ⟨_,rfl,V.autD hN,k2⟩
  ·rw[if_neg c2]
   obtain ⟨u,e5,h5,k5⟩:=BR (h:=q.2.2) hl k2
   rw[e5]
   exact ⟨_,rfl,h5,k5⟩
theorem Px (hl:xs.length<=1048576) (hc:gl xs i): ∃r:AutT×Int×Int,kM (xs,i,h)=some r/\Data.sm r.1/\gl xs r.2.1:=by
 unfold kM
 simp only
 obtain ⟨a,e,ha,k⟩:=N6 (h:=h) hl hc
 rw[e];simp only[aa]
 obtain ⟨q,e2,-,k2⟩:=bD (h:=a.2.2) hl k (n:=14) (by omega)
 rw[e2];simp only[aa]
 have hsm:=ha.sm
 obtain ⟨⟨hl1,hl2⟩,⟨hl3,hl4⟩,hr⟩:=ha
 have hg:aW a.1.2.2 0=some (nth a.1.2.2 0):=aH (by omega) (by omega)
 have h9:(nth a.1.2.2 0).length=9:=hr _ (bP (by omega) (by omega))
 by_cases c0:(q.1==0)=true
 ·rw[if_pos c0]
  obtain ⟨r,e3,-,k3⟩:=cn (h:=q.2.2) hl k2 (l:=[(-1),12,1]) (by simp)
  rw[e3];simp only[aa]
  exact ⟨_,rfl,hsm,k3⟩
 ·rw[if_neg c0]
  by_cases c1:(q.1==1)=true
  ·rw[if_pos c1,aR (by simp only[au,aC];omega)];simp only[aa]
   exact ⟨_,rfl,⟨trivial,⟨by simp;omega,fun _ _=>trivial⟩,hsm.2.2⟩,k2⟩
  ·rw[if_neg c1]
   by_cases c2:(q.1==2)=true
   ·rw[if_pos c2,hg];simp only[aa]
    obtain ⟨r,e3,-,k3⟩:=cn (h:=q.2.2) hl k2 (l:=[(-2),12,0]) (by simp)
    rw[e3];simp only[aa]
    rw[aH (by omega) (by omega)];simp only[aa]
    refine ⟨_,rfl,⟨trivial,hsm.2.1,?_,fun x hx=>?_⟩,k3⟩
    ·show (List.set _ _ _).length<=_
     rw[List.length_set];omega
    ·rcases List.mem_or_eq_of_mem_set hx with hx | rfl
     ·exact hsm.2.2.2 x hx
     ·exact ⟨by rw[List.length_set,h9];decide,fun _ _=>trivial⟩
   ·rw[if_neg c2]
    by_cases c3:(q.1==3)=true
    ·rw[if_pos c3,hg];simp only[aa]
     have hk:chk (0<((a.1.2.2.set 0 ([] :List Int)).length:Int))=some ():=by unfold chk;rw[if_pos (by rw[List.length_set];omega)]
     have hk2:chk (And ((0:Int)<=8) (8<=((nth a.1.2.2 0).length:Int)))=some ():=by unfold chk;rw[if_pos (by rw[h9];decide)]
     rw[hk,hk2];simp only[aa]
     refine ⟨_,rfl,⟨trivial,hsm.2.1,?_,fun x hx=>?_⟩,k2⟩
     ·show (List.set _ _ _).length<=_
      rw[List.length_set];omega
     ·rcases List.mem_or_eq_of_mem_set hx with hx | rfl
      ·exact hsm.2.2.2 x hx
      ·exact ⟨by rw[aA];omega,fun _ _=>trivial⟩
    ·rw[if_neg c3];simp only[aa]
     exact ⟨_,rfl,hsm,k2⟩
end
end D
namespace D
open Go.RowKit
abbrev GrT:=(List Int)×(List Yq1)
theorem FN {R:Type} {f:Int->Option (Out R Int)} (N:Nat) (p:Nat->Prop) [DecidablePred p] (r:R) (hN:N<=9223372036854775807)
  (h: ∀i:Nat,i<N->f (i:Int)=some (if p i then .nxt ((i+1:Nat):Int) else .ret r)) (he:f (N:Int)=some (.brk (N:Int))) :
  (aF f a8 0=some (.brk (N:Int))/\ ∀i,i<N->p i)\/(aF f a8 0=some (.ret r)/\ ¬ ∀i,i<N->p i):=by
 obtain ⟨o,e,hq⟩:=dt (f:=f) (fun i s=>s=(i:Int)/\ ∀j:Nat,j<i->p j) (fun o=>(o= .brk (N:Int)/\ ∀i,i<N->p i)\/(o= .ret r/\ ¬ ∀i,i<N->p i)) N (s:=0) (by
  rintro i s hi ⟨rfl,hp⟩
  by_cases hl:i<N
  ·by_cases c:p i
   ·refine .inl ⟨hl,_,by rw[h i hl,if_pos c],rfl,fun j hj=>?_⟩
    by_cases e:j=i
    ·subst e;exact c
    ·exact hp j (by omega)
   ·exact .inr ⟨_,by rw[h i hl,if_neg c],(fun s' e=>by cases e),.inr ⟨rfl,fun hx=>c (hx i hl)⟩⟩
  ·obtain rfl:i=N:=by omega
   exact .inr ⟨_,he,(fun s' e=>by cases e),.inl ⟨rfl,hp⟩⟩) ⟨rfl,by omega⟩ (lX hN)
 rcases hq with ⟨rfl,hq⟩ | ⟨rfl,hq⟩
 ·exact .inl ⟨e,hq⟩
 ·exact .inr ⟨e,hq⟩
structure GOk (g:GrT):Prop where
 n1:1<=g.1.length
 n5:g.1.length<=5
 m:g.2.length<=12
 val: ∀v∈g.1,0<=v/\v<=2
 edge: ∀e∈g.2,(0<=e.2.1/\e.2.1<g.1.length)/\(0<=e.2.2.1/\e.2.2.1<g.1.length)/\0<=e.2.2.2/\e.2.2.2<=2
 asc: ∀i:Nat,i+1<g.2.length->(nth g.2 i).1<(nth g.2 ((i+1:Nat):Int)).1
def edgeP (e:Int×Int×Int×Int) (n:Int):Prop:=(1<=e.1/\e.1<=99)/\(0<=e.2.1/\e.2.1<=n - 1)/\(0<=e.2.2.1/\e.2.2.1<=n - 1)/\0<=e.2.2.2/\e.2.2.2<=2
instance (e n):Decidable (edgeP e n):=by unfold edgeP;infer_instance
theorem JK (e:Int×Int×Int×Int) {n:Nat} (hn:n<=1048576):gb e (n:Int)=some (decide (edgeP e n)):=by
 unfold gb edgeP
 simp only[Ir,aa,lg (show n<=9223372036854775807 by omega)]
 by_cases c1:1<=e.1/\e.1<=99 <;> by_cases c2:0<=e.2.1/\e.2.1<=(n:Int) - 1 <;> by_cases c3:0<=e.2.2.1/\e.2.2.1<=(n:Int) - 1 <;> simp[c1,c2,c3]
def GOkF (g:GrT):Prop:=GOk g/\ ∀e∈g.2,1<=e.1/\e.1<=99
theorem rK (g:GrT) (h1:g.1.length<=1048576) (h2:g.2.length<=1048576): ∃b,bc g=some b/\(b=true↔GOkF g):=by
 unfold bc
 have k0:=FN (f:=cL g) g.1.length (fun i=>0<=nth g.1 i/\nth g.1 i<=2) false (by omega) (fun i hi=>by
  unfold cL
  rw[if_pos (by simp;omega),aH (by omega) (by omega)];simp only[aa,Ir,decide_eq_true_eq]
  split
  ·rw[aE (by omega)]
  ·rfl) (by unfold cL;rw[if_neg (by simp)])
 have k1:=FN (f:=bV g) g.2.length (fun i=>edgeP (nth g.2 i) g.1.length/\(0<i->(nth g.2 ((i:Int) - 1)).1<(nth g.2 i).1)) false (by omega) (fun i hi=>by
  unfold bV
  rw[if_pos (by simp;omega),aH (by omega) (by omega)];simp only[aa]
  have e1:=JK (nth g.2 (i:Int)) h1
  have e1:gb ((nth g.2 (i:Int)).1,(nth g.2 (i:Int)).2.1,(nth g.2 (i:Int)).2.2.1,(nth g.2 (i:Int)).2.2.2) (g.1.length:Int)=_:=e1
  rw[e1];simp only[aa,decide_eq_true_eq]
  by_cases c1:edgeP (nth g.2 (i:Int)) g.1.length
  ·rw[if_pos c1]
   by_cases c2:0<i
   ·rw[if_pos (by omega),lg (by omega),aH (by omega) (by omega)];simp only[aa]
    by_cases c3:(nth g.2 ((i:Int) - 1)).1<(nth g.2 (i:Int)).1
    ·rw[if_neg (by omega),if_pos ⟨c1,fun _=>c3⟩,aE (by omega)]
    ·rw[if_pos (by omega),if_neg (fun h=>c3 (h.2 c2))]
   ·rw[if_neg (by omega),if_pos ⟨c1,fun h=>absurd h c2⟩,aE (by omega)]
  ·rw[if_neg c1,if_neg (fun h=>c1 h.1)]) (by unfold bV;rw[if_neg (by simp)])
 rcases k0 with ⟨k0,j0⟩ | ⟨k0,j0⟩
 ·rw[aG k0]
  rcases k1 with ⟨k1,j1⟩ | ⟨k1,j1⟩
  ·rw[aG k1,Ir];simp only[aa,decide_eq_true_eq]
   split
   ·rename_i c
    refine ⟨_,rfl,fun hb=>?_,fun G=>decide_eq_true (by have:=G.1.m;omega)⟩
    have hb:=of_decide_eq_true hb
    refine ⟨⟨by omega,by omega,by omega,fun v hv=>?_,fun e he=>?_,fun i hi=>?_⟩,fun e he=>?_⟩
    rotate_left 3
    ·obtain ⟨i,hi,rfl⟩:=tE he
     exact (j1 i hi).1.1
    ·obtain ⟨i,hi,rfl⟩:=tE hv
     exact j0 i hi
    ·obtain ⟨i,hi,rfl⟩:=tE he
     obtain ⟨a1,a2,a3,a4⟩:=(j1 i hi).1
     exact ⟨⟨a2.1,by omega⟩,⟨a3.1,by omega⟩,a4⟩
    ·have:=(j1 (i+1) hi).2 (by omega)
     rwa [show (((i+1:Nat):Int) - 1)=(i:Int) from by omega] at this
   ·rename_i c
    exact ⟨false,rfl,(fun h=>by cases h),fun G=>absurd (by have:=G.1.n1;have:=G.1.n5;omega) c⟩
  ·rw[cm k1]
   refine ⟨false,rfl,(fun h=>by cases h),fun G=>absurd (fun i hi=>?_) j1⟩
   have hm:=bP (xs:=g.2) (i:=(i:Int)) (by omega) (by omega)
   obtain ⟨e1,e2,e3,e4⟩:=G.1.edge _ hm
   refine ⟨⟨G.2 _ hm,⟨e1.1,by omega⟩,⟨e2.1,by omega⟩,e3,e4⟩,fun h0=>?_⟩
   have:=G.1.asc (i - 1) (by omega)
   rwa [show ((i - 1:Nat):Int)=(i:Int) - 1 from by omega,show (((i - 1)+1:Nat):Int)=(i:Int) from by omega] at this
 ·rw[cm k0]
  exact ⟨false,rfl,(fun h=>by cases h),fun G=>absurd (fun i hi=>G.1.val _ (bP (by omega) (by omega))) j0⟩
theorem GOk.lt {g:GrT} (G:GOk g) {i j:Nat} (h:i<j) (hj:j<g.2.length):(nth g.2 (i:Int)).1<(nth g.2 (j:Int)).1:=by
 induction h with
 | refl=>exact G.asc i hj
 | step h ih =>
  rename_i m
  have h1:=ih (by omega)
  have h2:=G.asc m hj
  exact Int.lt_trans h1 h2
end D
namespace D
open Go.RowKit
section
variable {xs:List Int} {i h:Int}
theorem N7 (hl:xs.length<=1048576) {p:List Int×Int×Int} (hp:p.1=xs) (hc:gl xs i) {n:Int} (hn:0<=n/\n<=5): ∃s:Int×Int×Int×List Int×List Yq1,aF (fF p) a8 (n,i,h,([] :List Int),([] :List Yq1))=some (.brk s)/\s.2.2.2.1.length=n.toNat/\s.2.2.2.2= [] /\gl xs s.2.1:=by
 obtain ⟨s,e,h1,h2,h3,h4⟩:=lf (f:=fF p) (fun j s=>s.1=n - (j:Int)/\s.2.2.2.1.length=j/\s.2.2.2.2= [] /\gl xs s.2.1) n.toNat (fun j s hj hI=>by
  obtain ⟨h1,h2,h3,h4⟩:=hI
  unfold fF
  rw[h1,hp,if_pos (by simp;omega)]
  obtain ⟨r,e,-,k⟩:=bD (h:=s.2.2.1) hl h4 (n:=3) (by omega)
  rw[e];simp only[aa]
  rw[aR (by simp only[au,aC];omega)];simp only[aa]
  refine ⟨_,rfl,?_,by simp[h2],h3,k⟩
  show IntKind.i64.wrap (n - (j:Int) - 1)=n - ((j+1:Nat):Int)
  rw[br (by omega) (by omega)];omega) (fun s hI=>by
  unfold fF
  rw[hI.1,if_neg (by simp;omega)]
  obtain ⟨a,b⟩:=s
  obtain rfl:a=_:=hI.1
  rfl) (s:=(n,i,h,([] :List Int),([] :List Yq1))) ⟨by show n=n - 0;omega,rfl,rfl,hc⟩ (lX (by omega))
 exact ⟨s,e,h2,h3,h4⟩
def GrD (g:GrT):Prop:=(1<=g.1.length/\g.1.length<=5)/\g.2.length<=11
theorem GrD.sm {g:GrT} (h:GrD g):Data.sm g:=⟨⟨by have:=h.1.2;omega,fun _ _=>trivial⟩,by have:=h.2;omega,fun _ _=>⟨trivial,trivial,trivial,trivial⟩⟩
theorem FO (hl:xs.length<=1048576) (hc:gl xs i): ∃r:GrT×Int×Int,ju (xs,i,h)=some r/\GrD r.1/\gl xs r.2.1:=by
 unfold ju
 simp only
 obtain ⟨r0,e0,h0,k0⟩:=cn (h:=h) hl hc (l:=[2,3,4,4,5]) (by simp)
 rw[e0];simp only[aa]
 have h0:2<=r0.1/\r0.1<=5:=by simp at h0;omega
 obtain ⟨s,e,h1,h2,h3⟩:=N7 (p:=(xs,i,h)) (h:=r0.2.2) hl rfl k0 (n:=r0.1) (by omega)
 rw[aG e]
 obtain ⟨r10,e10,h10,k10⟩:=cn (h:=s.2.2.1) hl h3 (l:=[4,8,11]) (by simp)
 rw[e10];simp only[aa]
 have h10:4<=r10.1/\r10.1<=11:=by simp at h10;omega
 obtain ⟨r11,e11,h11,k11⟩:=bD (h:=r10.2.2) hl k10 (n:=r10.1) (by omega)
 rw[e11];simp only[aa]
 obtain ⟨q,eq,q1,q2,q3,q4⟩:=lf (f:=hZ (xs,i,h)) (fun j z=>z.2.1=r11.1 - (j:Int)/\z.2.2.2.2.1=s.2.2.2.1/\z.2.2.2.2.2.length=j/\gl xs z.2.2.1) r11.1.toNat (fun j z hj hI=>by
  obtain ⟨z1,z2,z3,z4⟩:=hI
  unfold hZ
  rw[z1,z2,if_pos (by simp;omega)]
  obtain ⟨a,ea,-,ka⟩:=bD (h:=z.2.2.2.1) hl z4 (n:=3) (by omega)
  rw[ea];simp only[aa]
  obtain ⟨b,eb,-,kb⟩:=bD (h:=a.2.2) hl ka (n:=(s.2.2.2.1.length:Int)) (by omega)
  rw[eb];simp only[aa]
  obtain ⟨c,ec,-,kc⟩:=bD (h:=b.2.2) hl kb (n:=(s.2.2.2.1.length:Int)) (by omega)
  rw[ec];simp only[aa]
  obtain ⟨d,ed,-,kd⟩:=cn (h:=c.2.2) hl kc (l:=[0,0,1,2]) (by simp)
  rw[ed];simp only[aa]
  rw[aR (by simp only[au,aC];omega)];simp only[aa]
  refine ⟨_,rfl,?_,rfl,by simp[z3],kd⟩
  show IntKind.i64.wrap (r11.1 - (j:Int) - 1)=r11.1 - ((j+1:Nat):Int)
  rw[br (by omega) (by omega)];omega) (fun z hI=>by
  unfold hZ
  rw[hI.1,if_neg (by simp;omega)]
  obtain ⟨a,b,c⟩:=z
  obtain rfl:b=_:=hI.1
  rfl) (s:=(0,r11.1,r11.2.1,r11.2.2,s.2.2.2.1,s.2.2.2.2)) ⟨by show r11.1=r11.1 - 0;omega,rfl,by rw[h2];rfl,k11⟩ (lX (by omega))
 rw[aG eq]
 refine ⟨_,rfl,⟨?_,?_⟩,q4⟩
 ·show 1<=q.2.2.2.2.1.length/\q.2.2.2.2.1.length<=5
  rw[q2];omega
 ·show q.2.2.2.2.2.length<=11
  omega
theorem N8 (hl:xs.length<=1048576) (hc:gl xs i): ∃r:GrT×Int×Int,mG (xs,i,h)=some r/\Data.sm r.1/\gl xs r.2.1:=by
 unfold mG
 simp only
 obtain ⟨g,e,hg,k⟩:=FO (h:=h) hl hc
 rw[e];simp only[aa]
 obtain ⟨q,e2,-,k2⟩:=bD (h:=g.2.2) hl k (n:=14) (by omega)
 rw[e2];simp only[aa]
 have hsm:=hg.sm
 obtain ⟨⟨hl1,hl2⟩,hl3⟩:=hg
 by_cases c0:(q.1==0)=true
 ·rw[if_pos c0]
  obtain ⟨r,e3,-,k3⟩:=cn (h:=q.2.2) hl k2 (l:=[(-1),3,2]) (by simp)
  rw[e3];simp only[aa]
  rw[aH (by omega) (by omega)];simp only[aa]
  exact ⟨_,rfl,⟨⟨by rw[List.length_set];omega,fun _ _=>trivial⟩,hsm.2⟩,k3⟩
 ·rw[if_neg c0]
  by_cases c1:(q.1==1)=true
  ·rw[if_pos c1]
   obtain ⟨r,e3,-,k3⟩:=cn (h:=q.2.2) hl k2 (l:=[0,1,99,100]) (by simp)
   rw[e3];simp only[aa]
   obtain ⟨r4,e4,-,k4⟩:=bD (h:=r.2.2) hl k3 (n:=6) (by omega)
   rw[e4];simp only[aa]
   obtain ⟨r5,e5,-,k5⟩:=bD (h:=r4.2.2) hl k4 (n:=6) (by omega)
   rw[e5];simp only[aa]
   obtain ⟨r6,e6,-,k6⟩:=bD (h:=r5.2.2) hl k5 (n:=4) (by omega)
   rw[e6];simp only[aa]
   rw[aR (by simp only[au,aC];omega)];simp only[aa]
   exact ⟨_,rfl,⟨hsm.1,by simp;omega,fun _ _=>⟨trivial,trivial,trivial,trivial⟩⟩,k6⟩
  ·rw[if_neg c1]
   by_cases c2:(q.1==2)=true
   ·rw[if_pos c2];simp only[aa]
    exact ⟨_,rfl,⟨⟨Nat.zero_le _,fun _ h=>by cases h⟩,hsm.2⟩,k2⟩
   ·rw[if_neg c2];simp only[aa]
    exact ⟨_,rfl,hsm,k2⟩
theorem N9 (hl:xs.length<=1048576) (hc:gl xs i): ∃r:GrT×AutT×Int×Int,lJ (xs,i,h)=some r/\Data.sm r.1/\Data.sm r.2.1/\gl xs r.2.2.1:=by
 unfold lJ
 simp only
 obtain ⟨g,e,hg,k⟩:=FO (h:=h) hl hc
 rw[e];simp only[aa]
 obtain ⟨a,e1,ha,k1⟩:=N6 (h:=g.2.2) hl k
 rw[e1];simp only[aa]
 obtain ⟨o,e2,k2⟩:=ma (h:=a.2.2) hl k1 (n:=16) (by omega)
 rw[e2];simp only[aa]
 have key: ∃q:Int×Int×List Int×List Yq1,(if o.1 then ((mG (xs,o.2.1,o.2.2)).bind fun r3=>some (r3.2.1,r3.2.2,r3.1.1,r3.1.2)) else (some (o.2.1,o.2.2,g.1.1,g.1.2)):Option (Int×Int×List Int×List Yq1))=some q/\Data.sm ((q.2.2.1,q.2.2.2):GrT)/\gl xs q.1:=by
  by_cases c:o.1=true
  ·rw[if_pos c]
   obtain ⟨u,e3,h3,k3⟩:=N8 (h:=o.2.2) hl k2
   rw[e3];exact ⟨_,rfl,h3,k3⟩
  ·rw[if_neg c];exact ⟨_,rfl,hg.sm,k2⟩
 obtain ⟨q,e3,h3,k3⟩:=key
 rw[e3];simp only[aa]
 obtain ⟨o2,e4,k4⟩:=ma (h:=q.2.1) hl k3 (n:=16) (by omega)
 rw[e4];simp only[aa]
 have key: ∃z:Int×Int×Int×List Bool×List (List Int),(if o2.1 then ((kM (xs,o2.2.1,o2.2.2)).bind fun r6=>some (r6.2.1,r6.2.2,r6.1.1,r6.1.2.1,r6.1.2.2)) else (some (o2.2.1,o2.2.2,a.1.1,a.1.2.1,a.1.2.2)):Option (Int×Int×Int×List Bool×List (List Int)))=some z/\Data.sm ((z.2.2.1,z.2.2.2.1,z.2.2.2.2):AutT)/\gl xs z.1:=by
  by_cases c:o2.1=true
  ·rw[if_pos c]
   obtain ⟨u,e5,h5,k5⟩:=Px (h:=o2.2.2) hl k4
   rw[e5];exact ⟨_,rfl,h5,k5⟩
  ·rw[if_neg c];exact ⟨_,rfl,ha.sm,k4⟩
 obtain ⟨z,e5,h5,k5⟩:=key
 rw[e5]
 exact ⟨_,rfl,h3,h5,k5⟩
theorem Oa (hl:xs.length<=1048576) (hc:gl xs i) (g:GrT): ∃r:Int×Int×Int,kP (xs,i,h) g=some r/\gl xs r.2.1:=by
 unfold kP
 simp only
 obtain ⟨r,e,k⟩:=ma (h:=h) hl hc (n:=14) (by omega)
 rw[e];simp only[aa]
 by_cases c:r.1=true
 ·rw[if_pos c]
  obtain ⟨q,e2,-,k2⟩:=cn (h:=r.2.2) hl k (l:=[(-1),5,9223372036854775807]) (by simp)
  rw[e2]
  exact ⟨_,rfl,k2⟩
 ·rw[if_neg c]
  obtain ⟨q,e2,-,k2⟩:=bD (h:=r.2.2) hl k (n:=Max.max 1 (g.1.length:Int)) (by omega)
  rw[e2]
  exact ⟨_,rfl,k2⟩
theorem Qs (hl:xs.length<=1048576) (hc:gl xs i) (g:GrT): ∃r:Int×Int×Int,py (xs,i,h) g=some r/\gl xs r.2.1:=by
 unfold py
 simp only
 by_cases c:(g.2.length:Int)>0
 ·rw[if_pos (by simpa using c)]
  obtain ⟨r,e,k⟩:=ma (h:=h) hl hc (n:=6) (by omega)
  rw[e];simp only[aa]
  by_cases c2:r.1=true
  ·rw[if_pos c2]
   obtain ⟨q,e2,-,k2⟩:=cn (h:=r.2.2) hl k (l:=[0,1,50,(-1)]) (by simp)
   rw[e2]
   exact ⟨_,rfl,k2⟩
  ·rw[if_neg c2]
   obtain ⟨q,e2,h2,k2⟩:=bD (h:=r.2.2) hl k (n:=(g.2.length:Int)) c
   rw[e2];simp only[aa]
   rw[aH h2.1 h2.2]
   exact ⟨_,rfl,k2⟩
 ·rw[if_neg (by simpa using c)]
  obtain ⟨q,e2,-,k2⟩:=cn (h:=h) hl hc (l:=[0,1,50,(-1)]) (by simp)
  rw[e2]
  exact ⟨_,rfl,k2⟩
end
end D
namespace D
open Go.RowKit
theorem pQ (m:Nat):BitVec.ofInt 64 (m:Int)=BitVec.ofNat 64 m:=by simp
theorem FP {m n:Nat} (hm:m<2 ^ 62) (hn:n<2 ^ 62):nA (m:Int) (n:Int)=((m &&& n:Nat):Int):=by
 unfold nA
 rw[pQ,pQ,BitVec.toNat_and,BitVec.toNat_ofNat,BitVec.toNat_ofNat,Nat.mod_eq_of_lt (by omega),Nat.mod_eq_of_lt (by omega)]
 have:m &&& n<=m:=Nat.and_le_left
 exact br (by omega) (by omega)
theorem BS {m n:Nat} (hm:m<2 ^ 62) (hn:n<2 ^ 62):orI (m:Int) (n:Int)=((m ||| n:Nat):Int):=by
 unfold orI
 rw[pQ,pQ,BitVec.toNat_or,BitVec.toNat_ofNat,BitVec.toNat_ofNat,Nat.mod_eq_of_lt (by omega),Nat.mod_eq_of_lt (by omega)]
 have:m ||| n<2 ^ 62:=Nat.or_lt_two_pow hm hn
 exact br (by omega) (by omega)
theorem wN {m i:Nat} (hi:i<64):jP (m:Int) (i:Int)=((m >>> i:Nat):Int):=by
 unfold jP
 rw[show min (i:Int).toNat 64=i from by simp;omega,Nat.shiftRight_eq_div_pow,Int.fdiv_eq_ediv_of_nonneg _ (by exact_mod_cast Nat.zero_le _)]
 simp
theorem qF {i:Nat} (hi:i<62):rk 1 (i:Int)=((2 ^ i:Nat):Int):=by
 unfold rk
 rw[show min (i:Int).toNat 64=i from by simp;omega,Int.one_mul]
 have:2 ^ i<2 ^ 62:=Nat.pow_lt_pow_right (by decide) hi
 rw[show ((2:Int) ^ i)=((2 ^ i:Nat):Int) from by simp]
 generalize 2 ^ i=z at this
 exact br (by omega) (by omega)
theorem tJ {m i:Nat} (hm:m<2 ^ 62) (hi:i<64):((nA (jP (m:Int) (i:Int)) 1)==1)=m.testBit i:=by
 have h1:m >>> i<2 ^ 62:=Nat.lt_of_le_of_lt (by rw[Nat.shiftRight_eq_div_pow];exact Nat.div_le_self _ _) hm
 rw[wN hi,show (1:Int)=((1:Nat):Int) from rfl,FP h1 (by decide),Nat.testBit,Nat.and_comm]
 have e:m >>> i &&& 1=m >>> i % 2:=Nat.and_one_is_mod _
 rw[Nat.and_comm 1,e]
 rcases Nat.mod_two_eq_zero_or_one (m >>> i) with h | h <;> rw[h] <;> rfl
theorem IF {m i:Nat} (hm:m<2 ^ 62) (hi:i<64):((nA (jP (m:Int) (i:Int)) 1)==0)= !m.testBit i:=by
 have h1:m >>> i<2 ^ 62:=Nat.lt_of_le_of_lt (by rw[Nat.shiftRight_eq_div_pow];exact Nat.div_le_self _ _) hm
 rw[wN hi,show (1:Int)=((1:Nat):Int) from rfl,FP h1 (by decide),Nat.testBit,Nat.and_comm]
 have e:m >>> i &&& 1=m >>> i % 2:=Nat.and_one_is_mod _
 rw[Nat.and_comm 1,e]
 rcases Nat.mod_two_eq_zero_or_one (m >>> i) with h | h <;> rw[h] <;> rfl
def c7 (m k:Nat):List Int:=((List.range k).filter fun i=>m.testBit i).map fun (i:Nat)=>(i:Int)
theorem gi (m k:Nat):c7 m (k+1)=if m.testBit k then c7 m k++ [(k:Int)] else c7 m k:=by
 unfold c7
 rw[List.range_succ,List.filter_append,aI]
 by_cases h:m.testBit k=true
 ·simp[h]
 ·simp[h]
theorem ny {m k l:Nat} (h:m<2 ^ k) (hl:k<=l):c7 m l=c7 m k:=by
 induction hl with
 | refl=>rfl
 | step hl ih =>
  rw[gi,Nat.testBit_lt_two_pow (az h (Nat.pow_le_pow_right (by decide) hl)),ih];rfl
theorem mU {m k:Nat} {x:Int} :x∈c7 m k↔ ∃i:Nat,i<k/\m.testBit i=true/\x=(i:Int):=by
 unfold c7
 simp only[List.mem_map,List.mem_filter,List.mem_range]
 constructor
 ·rintro ⟨i,⟨h1,h2⟩,rfl⟩;exact ⟨i,h1,h2,rfl⟩
 ·rintro ⟨i,h1,h2,rfl⟩;exact ⟨i,⟨h1,h2⟩,rfl⟩
theorem iE (m k:Nat):(c7 m k).length<=k:=by
 unfold c7;rw[List.length_map];exact Nat.le_trans (List.length_filter_le _ _) (by simp)
theorem vm {m:Nat} : ∀ {k:Nat},(∀i,i<k->m.testBit i=false)->c7 m k= []
 | 0,_=>rfl
 | k+1,h=>by rw[gi,h k (by omega),vm fun i hi=>h i (by omega)];rfl
theorem yR {s k:Nat} (h:s<k):c7 (2 ^ s) k= [(s:Int)]:=by
 rw[ny (k:=s+1) (Nat.pow_lt_pow_right (by decide) (by omega)) h,gi,Nat.testBit_two_pow,vm fun i hi=>by rw[Nat.testBit_two_pow];simp;omega]
 simp
theorem nV (m i j:Nat):(m ||| 2 ^ i).testBit j=(m.testBit j || decide (i=j)):=by
 rw[Nat.testBit_or,Nat.testBit_two_pow]
theorem pR {m i k:Nat} (h:m<2 ^ k) (hi:i<k):m ||| 2 ^ i<2 ^ k:=Nat.or_lt_two_pow h (Nat.pow_lt_pow_right (by decide) hi)
theorem IG {m i:Nat} (h:m >>> i=0):m<2 ^ i:=by
 rw[Nat.shiftRight_eq_div_pow] at h
 exact (Nat.div_eq_zero_iff_lt (Nat.two_pow_pos i)).1 h
end D
namespace D
open Go.RowKit
theorem p62 {n:Nat} (h:n<=30):2 ^ n<=2 ^ 62:=Nat.pow_le_pow_right (by decide) (by omega)
theorem mV {M:Nat} (hM:M<2 ^ 30):ff (M:Int)=some (c7 M 30):=by
 have h62:M<2 ^ 62:=az hM (p62 (by decide))
 obtain ⟨o,e,hq⟩:=dt (f:=kp (M:Int)) (fun i s=>s=(c7 M i,(i:Int))) (fun o=> ∃k,o= .brk (c7 M 30,k)) 30 (s:=([],0)) (by
  rintro i s hi rfl
  unfold kp
  have e0:chk ((0:Int)<=(i:Int))=some ():=by unfold chk;rw[if_pos (by omega)]
  simp only[e0,aa]
  by_cases c:M >>> i=0
  ·refine .inr ⟨.brk (c7 M i,(i:Int)),?_,(fun s' e=>by cases e),(i:Int),by rw[ny (IG c) hi]⟩
   rw[wN (by omega),c];rfl
  ·have hi':i<30:=by
    rcases Nat.lt_or_ge i 30 with h | h
    ·exact h
    ·exfalso;apply c
     rw[Nat.shiftRight_eq_div_pow]
     exact Nat.div_eq_of_lt (az hM (Nat.pow_le_pow_right (by decide) h))
   refine .inl ⟨hi',(c7 M (i+1),((i+1:Nat):Int)),?_,rfl⟩
   have c':((jP (M:Int) (i:Int)) !=0)=true:=by
    rw[wN (by omega)]
    simp only[bne_iff_ne,ne_eq]
    omega
   rw[if_pos c',tJ h62 (by omega),gi,aE (by omega)]
   by_cases b:M.testBit i=true
   ·rw[if_pos b,if_pos b,aR (by have:=iE M i;simp;omega)];rfl
   ·rw[if_neg b,if_neg b];rfl) rfl (by unfold a8;omega)
 obtain ⟨k,rfl⟩:=hq
 unfold ff
 exact aG e
def ClI (n:Nat) (i:Nat) (st:Int×Int):Prop:=(-1<=st.2/\st.2<n)/\ ∃(M:Nat) (L:List Int),st.1=(M:Int)/\M<2 ^ n/\L.length=i/\L.Nodup/\(∀x∈L,0<=x/\x<n)/\ ∀j:Nat,M.testBit j=true↔(j:Int)∈L
theorem Ob {n:Nat} {L:List Int} (h:L.Nodup) (k: ∀x∈L,0<=x/\x<n):L.length<=n:=by
 have:=h.length_le_of_subset (l₂:=(List.range n).map fun i:Nat=>(i:Int)) (fun x hx=>by
  obtain ⟨h0,h1⟩:=k x hx
  exact List.mem_map.2 ⟨x.toNat,List.mem_range.2 (by omega),by omega⟩)
 simpa using this
section
variable {a:AutT} {n:Nat} (V:VA a n) (hn:n<=12)
include V hn
theorem Mk {v:Int} (hv:0<=v/\v<=2) {i:Nat} {st:Int×Int} (h:ClI n i st) :
  (i<n/\ ∃st',b8 a v st=some (.nxt st')/\ClI n (i+1) st')\/b8 a v st=some (.brk st):=by
 obtain ⟨⟨h1,h2⟩,M,L,e1,hM,hl,hd,hr,hb⟩:=h
 obtain ⟨m,s⟩:=st
 obtain rfl:m=(M:Int):=e1
 have h62:M<2 ^ 62:=az hM (p62 (by omega))
 unfold b8
 by_cases c:s≥0
 ·obtain ⟨k,rfl⟩: ∃k:Nat,s=(k:Int):=⟨s.toNat,by omega⟩
  have hk:k<n:=by simp only at h2;omega
  have e0:chk ((0:Int)<=(k:Int))=some ():=by unfold chk;rw[if_pos (by omega)]
  simp only[e0,aa]
  rw[if_pos (by simp),IF h62 (by omega)]
  by_cases b:M.testBit k=true
  ·right;rw[if_neg (by simp[b])]
  ·left
   have b':(k:Int)∉L:=fun hh=>b ((hb k).2 hh)
   have hle:=Ob (n:=n) (L:=(k:Int)::L) (List.nodup_cons.2 ⟨b',hd⟩) (fun x hx=>by
    rcases ax hx with rfl | hx
    ·omega
    ·exact hr x hx)
   simp only[au] at hle
   obtain ⟨u,rfl⟩: ∃u:Nat,v=(u:Int):=⟨v.toNat,by omega⟩
   have hu:u<=2:=by omega
   have ew:IntKind.i64.wrap (6+(u:Int))=((6+u:Nat):Int):=by rw[br (by omega) (by omega)];omega
   refine ⟨by omega,(((M ||| 2 ^ k:Nat):Int),mv a (k:Int) (6+u)),?_,?_,M ||| 2 ^ k,(k:Int)::L,rfl,pR hM hk,by simp[hl],List.nodup_cons.2 ⟨b',hd⟩,?_,?_⟩
   ·rw[if_pos (by simp[b]),ew]
    have e2:=BO V (s:=(k:Int)) (k:=6+u) (by omega) (by omega) (by omega)
    have e2:bp (a.1,a.2.1,a.2.2) (k:Int) ((6+u:Nat):Int)=_:=e2
    rw[e2,qF (by omega),BS h62 (Nat.pow_lt_pow_right (by decide) (by omega))];rfl
   ·exact V.mv (by omega) (by omega) (by omega)
   ·intro x hx
    rcases ax hx with rfl | hx
    ·omega
    ·exact hr x hx
   ·intro j
    rw[nV,Bool.or_eq_true,hb j,List.mem_cons,decide_eq_true_eq]
    constructor
    ·rintro (h | h)
     ·exact .inr h
     ·left;omega
    ·rintro (h | h)
     ·right;omega
     ·exact .inl h
 ·right
  rw[if_neg (by simpa using c)]
theorem yS {s v:Int} (hs:0<=s/\s<n) (hv:0<=v/\v<=2): ∃C:Nat,de a s v=some (C:Int)/\C<2 ^ n:=by
 have h0:ClI n 0 (0,s):=⟨⟨by simp only;omega,hs.2⟩,0,[],rfl,Nat.two_pow_pos n,rfl,List.nodup_nil,by simp,by simp⟩
 obtain ⟨o,e,C,s',rfl,hC⟩:=dt (f:=b8 a v) (ClI n) (fun o=> ∃(C:Nat) (s':Int),o= .brk ((C:Int),s')/\C<2 ^ n) n (s:=(0,s)) (fun i st hi h=>by
  rcases Mk V hn hv h with h' | h'
  ·exact .inl h'
  ·obtain ⟨_,M,L,e1,hM,_⟩:=h
   obtain ⟨m,s'⟩:=st
   obtain rfl:m=(M:Int):=e1
   exact .inr ⟨_,h',(fun s' e=>by cases e),M,s',rfl,hM⟩) h0 (by unfold a8;omega)
 exact ⟨C,by unfold de;exact aG e,hC⟩
end
def cS (a:AutT) (s v:Int):Nat:=((de a s v).getD 0).toNat
section
variable {a:AutT} {n:Nat} (V:VA a n) (hn:n<=12)
include V hn
theorem lj {s v:Int} (hs:0<=s/\s<n) (hv:0<=v/\v<=2):de a s v=some (cS a s v:Int)/\cS a s v<2 ^ n:=by
 obtain ⟨C,e,h⟩:=yS V hn hs hv
 unfold cS
 rw[e]
 exact ⟨rfl,by simpa using h⟩
end
def afS (a:AutT) (k:Nat) (C:Nat):Nat->Nat
 | 0=>0
 | q+1=>if C.testBit q=true/\0<=mv a (q:Int) k then afS a k C q ||| 2 ^ (mv a (q:Int) k).toNat else afS a k C q
def afL (a:AutT) (k:Nat) (l:List Int):Nat:=l.foldl (fun m t=>if 0<=mv a t k then m ||| 2 ^ (mv a t k).toNat else m) 0
theorem AB (a:AutT) (k C:Nat): ∀q,afL a k (c7 C q)=afS a k C q
 | 0=>rfl
 | q+1=>by
  rw[gi,afS]
  by_cases b:C.testBit q=true
  ·rw[if_pos b]
   unfold afL
   rw[List.foldl_append]
   have:=AB a k C q
   unfold afL at this
   rw[this]
   simp[b]
  ·rw[if_neg b,if_neg (fun h=>b h.1)]
   exact AB a k C q
section
variable {a:AutT} {n:Nat} (V:VA a n) (hn:n<=12)
include V
theorem FQ {k C:Nat} (hk:k<9): ∀q,q<=n->afS a k C q<2 ^ n
 | 0,_=>Nat.two_pow_pos n
 | q+1,hq=>by
  rw[afS]
  have:=FQ (C:=C) hk q (by omega)
  split
  ·rename_i c
   have:=(V.mv (s:=(q:Int)) (by omega) (by omega) hk).2
   exact pR (by assumption) (by omega)
  ·exact this
theorem JL {k:Nat} (hk:k<9) {l:List Int} (h: ∀x∈l,0<=x/\x<n):afL a k l<2 ^ n:=by
 unfold afL
 have key: ∀(l:List Int) (m:Nat),(∀x∈l,0<=x/\x<n)->m<2 ^ n->l.foldl (fun m t=>if 0<=mv a t k then m ||| 2 ^ (mv a t k).toNat else m) m<2 ^ n:=by
  intro l
  induction l with
  | nil=>intro m _ h;exact h
  | cons x l ih =>
   intro m hx hm
   rw[List.foldl_cons]
   refine ih _ (fun y hy=>hx y (by simp[hy])) ?_
   split
   ·have:=(V.mv (hx x (by simp)).1 (hx x (by simp)).2 hk).2
    exact pR hm (by omega)
   ·exact hm
 exact key l 0 h (Nat.two_pow_pos n)
include hn
theorem pS {C:Nat} (hC:C<2 ^ n): ∀x∈c7 C 30,0<=x/\x<(n:Int):=by
 intro x hx
 obtain ⟨i,hi,hb,rfl⟩:=mU.1 hx
 refine ⟨by omega,?_⟩
 rcases Nat.lt_or_ge i n with h | h
 ·omega
 ·rw[Nat.testBit_lt_two_pow (az hC (Nat.pow_le_pow_right (by decide) h))] at hb;cases hb
theorem CZ {k:Nat} (hk:k<6) {l:List Int} (hl: ∀x∈l,0<=x/\x<n) (hlen:l.length<=30):aF (ix a (k:Int) l) a8 (0,0)=some (.brk ((afL a k l:Int),(l.length:Int))):=by
 have:=ba (f:=ix a (k:Int) l) (fun i=>((afL a k (l.take i):Int),(i:Int))) l.length (fun i hi=>by
  unfold ix
  simp only
  have hx:=hl _ (bP (xs:=l) (i:=(i:Int)) (by omega) (by omega))
  rw[if_pos (by simp;omega),aH (by omega) (by omega)];simp only[aa]
  have e2:=BO V (s:=nth l (i:Int)) (k:=k) hx.1 hx.2 (by omega)
  have e2:bp (a.1,a.2.1,a.2.2) (nth l (i:Int)) (k:Int)=_:=e2
  rw[e2,aE (by omega)];simp only[aa]
  have et:l.take (i+1)=l.take i++ [nth l (i:Int)]:=by rw[List.take_add_one,cT hi];simp[hi]
  have ef:afL a k (l.take (i+1))=if 0<=mv a (nth l (i:Int)) k then afL a k (l.take i) ||| 2 ^ (mv a (nth l (i:Int)) k).toNat else afL a k (l.take i):=by
   rw[et];unfold afL;rw[List.foldl_append];rfl
  have hlt:=JL V (k:=k) (by omega) (l:=l.take i) (fun x hx=>hl x (List.mem_of_mem_take hx))
  have hmv:=(V.mv (s:=nth l (i:Int)) (k:=k) hx.1 hx.2 (by omega)).2
  rw[ef]
  by_cases c:0<=mv a (nth l (i:Int)) k
  ·rw[if_pos (by simpa using c),if_pos c]
   obtain ⟨t,ht⟩: ∃t:Nat,mv a (nth l (i:Int)) k=(t:Int):=⟨_,(Int.toNat_of_nonneg c).symm⟩
   have e0:chk ((0:Int)<=mv a (nth l (i:Int)) k)=some ():=by unfold chk;rw[if_pos c]
   rw[e0,ht,qF (by omega),BS (az hlt (p62 (by omega))) (Nat.pow_lt_pow_right (by decide) (by omega))];rfl
  ·rw[if_neg (by simpa using c),if_neg c];rfl) (by unfold ix;simp) (lX (by omega))
 simpa [afL] using this
theorem Oc {s v:Int} {k:Nat} (hs:0<=s/\s<n) (hv:0<=v/\v<=2) (hk:k<6):mJ a (rk 1 s) v (k:Int)=some (afL a k (c7 (cS a s v) 30):Int):=by
 obtain ⟨t,rfl⟩: ∃t:Nat,s=(t:Int):=⟨s.toNat,by omega⟩
 obtain ⟨e1,h1⟩:=lj V hn hs hv
 have hC:cS a (t:Int) v<2 ^ 30:=az h1 (Nat.pow_le_pow_right (by decide) (by omega))
 unfold mJ
 rw[qF (by omega),mV (Nat.pow_lt_pow_right (by decide) (by omega)),yR (by omega)];simp only[aa]
 have h0:fg a v (k:Int) [(t:Int)] (0,0)=some (.nxt ((afL a k (c7 (cS a (t:Int) v) 30):Int),1)):=by
  unfold fg
  simp only
  rw[if_pos (by simp),show aW [(t:Int)] 0=some (t:Int) from rfl];simp only[aa]
  have e1:de (a.1,a.2.1,a.2.2) (t:Int) v=_:=e1
  rw[e1];simp only[aa]
  rw[mV hC];simp only[aa]
  rw[CZ V hn hk (pS V hn h1) (iE _ _)]
  rfl
 have h1': ∀m:Int,fg a v (k:Int) [(t:Int)] (m,1)=some (.brk (m,1)):=fun m=>by
  unfold fg;rw[if_neg (by simp)]
 have:=ba (f:=fg a v (k:Int) [(t:Int)]) (fun i=>if i=0 then (0,0) else ((afL a k (c7 (cS a (t:Int) v) 30):Int),1)) 1 (fun i hi=>by
  obtain rfl:i=0:=by omega
  exact h0) (h1' _) (by unfold a8;omega)
 have this:aF (fg a v (k:Int) [(t:Int)]) a8 (0,0)=some (.brk ((afL a k (c7 (cS a (t:Int) v) 30):Int),1)):=this
 rw[this];rfl
end
end D
namespace D
open Go.RowKit
theorem fB {p:Prop} [Decidable p] (h:p):chk p=some ():=by unfold chk;rw[if_pos h]
def rm {α:Type} (N:Nat) (F:Nat->α):List α:=(List.range N).map F
section
variable {α:Type} {N:Nat} {F G:Nat->α}
theorem pT:(rm N F).length=N:=by simp[rm]
theorem ja (h: ∀z,z<N->F z=G z):rm N F=rm N G:=by
 unfold rm
 exact List.map_congr_left fun z hz=>h z (List.mem_range.1 hz)
theorem qG {c:Nat} (h:c<N):aW (rm N F) (c:Int)=some (F c):=by
 rw[bm (by rw[pT];exact h)]
 simp[rm]
theorem FR {c:Nat} {v:α} :(rm N F).set c v=rm N fun z=>if z=c then v else F z:=by
 refine List.ext_getElem (by simp[rm]) fun i h1 h2=>?_
 simp only[rm,List.getElem_set,List.getElem_map,List.getElem_range]
 by_cases e:c=i
 ·subst e;simp
 ·rw[if_neg e,if_neg (fun h=>e h.symm)]
theorem mW {xs:List α} [Inhabited α] {k:Nat} (h:k<xs.length):xs.take (k+1)=xs.take k++ [nth xs (k:Int)]:=by
 rw[List.take_add_one,cT h];simp[h]
end
theorem JM {α:Type} {b n:Nat} {z:α} (h:n*b<=140737488355328):mkI b (n:Int) z=some (rm n fun _=>z):=by
 have:rm n (fun _=>z)=List.replicate n z:=by
  unfold rm;exact List.ext_getElem (by simp) fun i h1 h2=>by simp
 rw[this,Ft h]
abbrev EdT:=Int×Int×Int×Int
abbrev ArT:=(Int×Bool)×Int×Int
def fwd (e:EdT):ArT:=((e.1,false),2*e.2.2.2,e.2.2.1)
def inv (e:EdT):ArT:=((e.1,true),2*e.2.2.2+1,e.2.1)
def JN (e:EdT) (x:Int):List ArT:=(if e.2.1=x then [fwd e] else [])++(if e.2.2.1=x then [inv e] else [])
def gQ (es:List EdT) (x:Nat):List ArT:=es.flatMap fun e=>JN e x
theorem II (e:EdT) (x:Int):(JN e x).length<=2:=by
 unfold JN;rw[al];split <;> split <;> simp
theorem mX {α β:Type} {f:α->List β} {B:Nat} : ∀ {xs:List α},(∀x∈xs,(f x).length<=B)->(xs.flatMap f).length<=B*xs.length
 | [],_=>by simp
 | x::xs,h=>by
  rw[List.flatMap_cons,al,au,Nat.mul_add]
  have:=h x (by simp)
  have:=mX (xs:=xs) fun y hy=>h y (by simp[hy])
  omega
theorem nz (es:List EdT) (x:Nat):(gQ es x).length<=2*es.length:=mX fun e _=>II e x
theorem FU (e:EdT) (h:0<=e.2.2.2/\e.2.2.2<=2) (b:Bool):mH e b=some (if b then 2*e.2.2.2+1 else 2*e.2.2.2):=by
 unfold mH
 rw[br (n:=2*e.2.2.2) (by omega) (by omega),br (by omega) (by omega)]
 cases b <;> rfl
theorem Od {g:GrT} (G:GOk g):pv g=some (rm g.1.length (gQ g.2)):=by
 unfold pv
 rw[JM (by have:=G.n5;omega)];simp only[aa]
 have:=ba (f:=jB g) (fun i=>((i:Int),rm g.1.length (gQ (g.2.take i)))) g.2.length (fun i hi=>by
  unfold jB
  simp only
  have hm:=G.m
  obtain ⟨⟨a1,a2⟩,⟨b1,b2⟩,c1⟩:=G.edge _ (bP (xs:=g.2) (i:=(i:Int)) (by omega) (by omega))
  rw[if_pos (by simp;omega),aH (by omega) (by omega)];simp only[aa]
  generalize he:nth g.2 (i:Int)=e at a1 a2 b1 b2 c1
  obtain ⟨id,fr,to,lb⟩:=e
  obtain ⟨p,rfl⟩: ∃p:Nat,fr=(p:Int):=⟨fr.toNat,by simp only at a1;omega⟩
  obtain ⟨q,rfl⟩: ∃q:Nat,to=(q:Int):=⟨to.toNat,by simp only at b1;omega⟩
  simp only at a1 a2 b1 b2 c1
  have hp:p<g.1.length:=by omega
  have hq:q<g.1.length:=by omega
  have r1:=FU (id,(p:Int),(q:Int),lb) c1 false
  have r2:=FU (id,(p:Int),(q:Int),lb) c1 true
  have l1:=nz (g.2.take i) p
  have l2:=nz (g.2.take i) q
  have l3:(g.2.take i).length<=12:=by rw[aA];omega
  simp only[qG hp,qG hq,aa,r1,r2,Int.toNat_natCast,FR,Bool.false_eq_true,if_false,if_true]
  rw[aR (by simp;omega)];simp only[aa,FR]
  rw[fB (by rw[pT];omega),fB trivial];simp only[aa]
  rw[aR (by split <;> simp <;> omega)];simp only[aa]
  rw[fB (by rw[pT];omega)];simp only[aa]
  try rw[fB rfl];simp only[aa]
  rw[aE (by omega)]
  congr 3
  refine ja fun z hz=>?_
  rw[mW hi,he]
  unfold gQ
  rw[List.flatMap_append]
  simp only[List.flatMap_cons,List.flatMap_nil,List.append_nil,JN]
  by_cases e1:z=q
  ·subst e1
   by_cases e2:z=p
   ·subst e2;simp[fwd,inv]
   ·simp[e2,fwd,inv,show¬((p:Int)=(z:Int)) from by omega]
  ·by_cases e2:z=p
   ·subst e2;simp[e1,fwd,inv,show¬((q:Int)=(z:Int)) from by omega]
   ·simp[e1,e2,show¬((p:Int)=(z:Int)) from by omega,show¬((q:Int)=(z:Int)) from by omega]) (by unfold jB;simp) (lX (by have:=G.m;omega))
 have this:aF (jB g) a8 (0,rm g.1.length fun _=>[])=_:=this
 rw[this,List.take_length];rfl
end D
namespace D
open Go.RowKit
def behind (a:AutT) (s v k:Int):List Int:=c7 (afL a k.toNat (c7 (cS a s v) 30)) 30
def nbA (g:GrT) (a:AutT) (x s:Nat) (y:ArT):List Int:=(behind a s (nth g.1 x) y.2.1).map fun t=>y.2.2*(a.2.1.length:Int)+t
def nbV (g:GrT) (a:AutT) (x s:Nat):List Int:=(gQ g.2 x).flatMap (nbA g a x s)
def nbC (g:GrT) (a:AutT) (c:Nat):List Int:=nbV g a (c / a.2.1.length) (c % a.2.1.length)
theorem tK {g:GrT} (G:GOk g) {x:Nat} {y:ArT} (h:y∈gQ g.2 x):(0<=y.2.1/\y.2.1<6)/\0<=y.2.2/\y.2.2<g.1.length:=by
 obtain ⟨e,he,hy⟩:=List.mem_flatMap.1 h
 obtain ⟨h1,h2,h3⟩:=G.edge e he
 unfold JN at hy
 rcases aD hy with hy | hy <;> split at hy
 ·obtain rfl:y=fwd e:=by simpa using hy
  exact ⟨⟨by simp[fwd];omega,by simp[fwd];omega⟩,h2⟩
 ·cases hy
 ·obtain rfl:y=inv e:=by simpa using hy
  exact ⟨⟨by simp[inv];omega,by simp[inv];omega⟩,h1⟩
 ·cases hy
section
variable {g:GrT} {a:AutT} (G:GOk g) (V:VA a a.2.1.length) (hn:a.2.1.length<=12)
include G V hn
theorem pU {s v:Int} {k:Int} (hs:0<=s/\s<a.2.1.length) (hv:0<=v/\v<=2) (hk:0<=k/\k<6):(∀t∈behind a s v k,0<=t/\t<(a.2.1.length:Int))/\(behind a s v k).length<=30/\afL a k.toNat (c7 (cS a s v) 30)<2 ^ 30:=by
 have h1:=(lj V hn hs hv).2
 have h2:=JL V (k:=k.toNat) (by omega) (pS V hn h1)
 exact ⟨pS V hn h2,iE _ _,az h2 (Nat.pow_le_pow_right (by decide) (by omega))⟩
theorem JO {x s:Nat} {y:ArT} (hx:x<g.1.length) (hs:s<a.2.1.length) (hy:y∈gQ g.2 x): ∀z∈nbA g a x s y,0<=z/\z<((a.2.1.length*g.1.length:Nat):Int):=by
 intro z hz
 obtain ⟨t,ht,rfl⟩:=List.mem_map.1 hz
 obtain ⟨k1,k2,k3⟩:=tK G hy
 have hv:=G.val _ (bP (xs:=g.1) (i:=(x:Int)) (by omega) (by omega))
 obtain ⟨t0,t1⟩:=(pU G V hn (s:=(s:Int)) ⟨by omega,by omega⟩ hv k1).1 t ht
 obtain ⟨q,hq⟩: ∃q:Nat,y.2.2=(q:Int):=⟨y.2.2.toNat,by omega⟩
 obtain ⟨r,rfl⟩: ∃r:Nat,t=(r:Int):=⟨t.toNat,by omega⟩
 rw[hq] at k3⊢
 have:q*a.2.1.length+r<g.1.length*a.2.1.length:=by
  have:(q+1)*a.2.1.length<=g.1.length*a.2.1.length:=Nat.mul_le_mul_right _ (by omega)
  rw[Nat.add_mul] at this;omega
 rw[Nat.mul_comm a.2.1.length]
 constructor
 ·exact_mod_cast Nat.zero_le _
 ·exact_mod_cast this
theorem Oe {x s:Nat} (hx:x<g.1.length) (hs:s<a.2.1.length): ∀z∈nbV g a x s,0<=z/\z<((a.2.1.length*g.1.length:Nat):Int):=by
 intro z hz
 obtain ⟨y,hy,hz⟩:=List.mem_flatMap.1 hz
 exact JO G V hn hx hs hy z hz
theorem FV {x s:Nat} {y:ArT} (hx:x<g.1.length) (hs:s<a.2.1.length) (hy:y∈gQ g.2 x):(nbA g a x s y).length<=30:=by
 unfold nbA
 rw[List.length_map]
 exact iE _ _
end
section
variable {g:GrT} {a:AutT} {F:Nat->List Int} {N:Nat}
theorem Py {x s:Nat} {o1 o2:List (List Int)} {y:ArT} {T:List Int} (hc:x*a.2.1.length+s<N) (hN:N<=60) (hF:(F (x*a.2.1.length+s)).length<=10000) (hT:T.length<=30) (hy: ∀t∈T,0<=y.2.2*(a.2.1.length:Int)+t/\y.2.2*(a.2.1.length:Int)+t<60/\0<=t/\t<=60) :
  aF (bW a ((x:Int),o1) ((s:Int),o2) y T) a8 (0,rm N F)=some (.brk ((T.length:Int),rm N fun z=>if z=x*a.2.1.length+s then F z++T.map fun t=>y.2.2*(a.2.1.length:Int)+t else F z)):=by
 have ec:IntKind.i64.wrap (IntKind.i64.wrap ((x:Int)*(a.2.1.length:Int))+(s:Int))=((x*a.2.1.length+s:Nat):Int):=by
  have:((x:Int)*(a.2.1.length:Int))=((x*a.2.1.length:Nat):Int):=by simp
  rw[this,pM (by omega),br (by omega) (by omega)];rfl
 have:=ba (f:=bW a ((x:Int),o1) ((s:Int),o2) y T) (fun j=>((j:Int),rm N fun z=>if z=x*a.2.1.length+s then F z++(T.take j).map fun t=>y.2.2*(a.2.1.length:Int)+t else F z)) T.length (fun j hj=>by
  unfold bW
  simp only
  obtain ⟨y0,y1,t0,t1⟩:=hy _ (bP (xs:=T) (i:=(j:Int)) (by omega) (by omega))
  rw[if_pos (by simp;omega),aH (by omega) (by omega)];simp only[aa,ec,qG hc,if_true]
  have ev:IntKind.i64.wrap (IntKind.i64.wrap (y.2.2*(a.2.1.length:Int))+nth T (j:Int))=y.2.2*(a.2.1.length:Int)+nth T (j:Int):=by
   rw[br (n:=y.2.2*(a.2.1.length:Int)) (by omega) (by omega),br (by omega) (by omega)]
  rw[ev,aR (by simp;omega)];simp only[aa,Int.toNat_natCast,FR]
  rw[fB (by rw[pT];omega),fB trivial,aE (by omega)];simp only[aa]
  congr 3
  refine ja fun z hz=>?_
  by_cases e:z=x*a.2.1.length+s
  ·subst e
   rw[if_pos rfl,if_pos rfl,mW hj,aI,ah];rfl
  ·simp only[if_neg e]) (by unfold bW;simp) (lX (by omega))
 rw[List.take_length] at this
 rw[<-this]
 congr 2
 refine ja fun z hz=>?_
 split <;> simp
end
section
variable {g:GrT} {a:AutT} (G:GOk g) (V:VA a a.2.1.length) (hn:a.2.1.length<=12)
include G V hn
theorem nN:a.2.1.length*g.1.length<=60:=by
 have:=Nat.mul_le_mul hn G.n5;omega
theorem cN {x s:Nat} (hx:x<g.1.length) (hs:s<a.2.1.length):x*a.2.1.length+s<a.2.1.length*g.1.length:=by
 have:(x+1)*a.2.1.length<=g.1.length*a.2.1.length:=Nat.mul_le_mul_right _ (by omega)
 rw[Nat.add_mul,Nat.mul_comm g.1.length] at this;omega
theorem Pz {F:Nat->List Int} {x s:Nat} {o1 o2:List (List Int)} (hx:x<g.1.length) (hs:s<a.2.1.length) (hF:F (x*a.2.1.length+s)= []) :
  aF (cM g a ((x:Int),o1) (gQ g.2 x) ((s:Int),o2)) a8 (0,rm (a.2.1.length*g.1.length) F)=some (.brk (((gQ g.2 x).length:Int),rm (a.2.1.length*g.1.length) fun z=>if z=x*a.2.1.length+s then nbV g a x s else F z)):=by
 have hl:=nz g.2 x
 have hm:=G.m
 have:=ba (f:=cM g a ((x:Int),o1) (gQ g.2 x) ((s:Int),o2)) (fun j=>((j:Int),rm (a.2.1.length*g.1.length) fun z=>if z=x*a.2.1.length+s then ((gQ g.2 x).take j).flatMap (nbA g a x s) else F z)) (gQ g.2 x).length (fun j hj=>by
  unfold cM
  simp only
  have hy:=bP (xs:=gQ g.2 x) (i:=(j:Int)) (by omega) (by omega)
  obtain ⟨k1,k2,k3⟩:=tK G hy
  have hv:=G.val _ (bP (xs:=g.1) (i:=(x:Int)) (by omega) (by omega))
  obtain ⟨q1,q2,q3⟩:=pU G V hn (s:=(s:Int)) (v:=nth g.1 (x:Int)) (k:=(nth (gQ g.2 x) (j:Int)).2.1) ⟨by omega,by omega⟩ hv k1
  rw[if_pos (by simp;omega),aH (by omega) (by omega)];simp only[aa]
  rw[fB (by omega),aH (xs:=g.1) (by omega) (by omega)];simp only[aa]
  obtain ⟨k,hk⟩: ∃k:Nat,(nth (gQ g.2 x) (j:Int)).2.1=(k:Int):=⟨_,(Int.toNat_of_nonneg k1.1).symm⟩
  have ea:=Oc V hn (s:=(s:Int)) (v:=nth g.1 (x:Int)) (k:=k) ⟨by omega,by omega⟩ hv (by omega)
  have ea:mJ (a.1,a.2.1,a.2.2) (rk 1 (s:Int)) (nth g.1 (x:Int)) (k:Int)=_:=ea
  rw[hk,ea];simp only[aa]
  have ek:k=(nth (gQ g.2 x) (j:Int)).2.1.toNat:=by rw[hk];rfl
  rw[ek,mV q3];simp only[aa]
  have hb:(((gQ g.2 x).take j).flatMap (nbA g a x s)).length<=30*((gQ g.2 x).take j).length:=mX fun y hy=>FV G V hn hx hs (List.mem_of_mem_take hy)
  have ht:((gQ g.2 x).take j).length<=24:=by rw[aA];omega
  have h3:=Py (F:=fun z=>if z=x*a.2.1.length+s then ((gQ g.2 x).take j).flatMap (nbA g a x s) else F z) (o1:=o1) (o2:=o2) (y:=nth (gQ g.2 x) (j:Int)) (T:=behind a (s:Int) (nth g.1 (x:Int)) (nth (gQ g.2 x) (j:Int)).2.1) (cN G V hn hx hs) (nN G V hn) (by simp only[if_true];omega) q2 (fun t ht=>by
   have h1:=JO G V hn hx hs hy _ (List.mem_map.2 ⟨t,ht,rfl⟩)
   have h2:=q1 t ht
   have:=nN G V hn
   omega)
  unfold behind at h3
  have h3:aF (bW a ((x:Int),o1) ((s:Int),o2) (nth (gQ g.2 x) (j:Int)) (c7 (afL a (nth (gQ g.2 x) (j:Int)).2.1.toNat (c7 (cS a (s:Int) (nth g.1 (x:Int))) 30)) 30)) a8 (0,rm (a.2.1.length*g.1.length) fun z=>if z=x*a.2.1.length+s then ((gQ g.2 x).take j).flatMap (nbA g a x s) else F z)=_:=h3
  rw[aG h3,aE (by omega)]
  congr 3
  refine ja fun z hz=>?_
  by_cases e:z=x*a.2.1.length+s
  ·subst e
   rw[if_pos rfl,if_pos rfl,mW hj,List.flatMap_append]
   simp[nbA,behind]
  ·simp only[if_neg e]) (by unfold cM;simp) (lX (by omega))
 rw[List.take_length] at this
 rw[show nbV g a x s=(gQ g.2 x).flatMap (nbA g a x s) from rfl,<-this]
 congr 2
 refine ja fun z hz=>?_
 split
 ·rename_i e;subst e;rw[hF];simp
 ·rfl
theorem Of {x s:Nat} (hs:s<a.2.1.length):nbC g a (x*a.2.1.length+s)=nbV g a x s:=by
 unfold nbC
 rw[Nat.mul_comm,Nat.mul_add_div (by omega),Nat.mul_add_mod,Nat.div_eq_of_lt hs,Nat.mod_eq_of_lt hs,Nat.add_zero]
theorem PA {x:Nat} {o1:List (List Int)} (hx:x<g.1.length) :
  aF (cO g a ((x:Int),o1) (gQ g.2 x)) a8 (0,rm (a.2.1.length*g.1.length) fun z=>if z<x*a.2.1.length then nbC g a z else [])=some (.brk ((a.2.1.length:Int),rm (a.2.1.length*g.1.length) fun z=>if z<(x+1)*a.2.1.length then nbC g a z else [])):=by
 have:=ba (f:=cO g a ((x:Int),o1) (gQ g.2 x)) (fun j=>((j:Int),rm (a.2.1.length*g.1.length) fun z=>if z<x*a.2.1.length+j then nbC g a z else [])) a.2.1.length (fun j hj=>by
  unfold cO
  simp only
  rw[if_pos (by simp;omega)]
  have h2:=Pz G V hn (F:=fun z=>if z<x*a.2.1.length+j then nbC g a z else []) (o1:=o1) (o2:=rm (a.2.1.length*g.1.length) fun z=>if z<x*a.2.1.length+j then nbC g a z else []) hx hj (by simp)
  rw[aG h2,aE (by omega)]
  congr 3
  refine ja fun z hz=>?_
  by_cases e:z=x*a.2.1.length+j
  ·subst e
   rw[if_pos rfl,if_pos (by omega),Of G V hn hj]
  ·rw[if_neg e]
   by_cases e2:z<x*a.2.1.length+j
   ·rw[if_pos e2,if_pos (by omega)]
   ·rw[if_neg e2,if_neg (by omega)]) (by unfold cO;simp) (lX (by omega))
 rw[Nat.add_mul,Nat.one_mul]
 exact this
theorem Ml:bT g a=some (rm (a.2.1.length*g.1.length) (nbC g a)):=by
 have hN:=nN G V hn
 unfold bT
 have ew:IntKind.i64.wrap ((a.2.1.length:Int)*(g.1.length:Int))=((a.2.1.length*g.1.length:Nat):Int):=by
  rw[show ((a.2.1.length:Int)*(g.1.length:Int))=((a.2.1.length*g.1.length:Nat):Int) from by simp,pM (by omega)]
 have ea:=Od G
 have ea:pv (g.1,g.2)=_:=ea
 rw[ew,JM (by omega),ea];simp only[aa]
 have:=ba (f:=dK g a (rm g.1.length (gQ g.2))) (fun j=>((j:Int),rm (a.2.1.length*g.1.length) fun z=>if z<j*a.2.1.length then nbC g a z else [])) g.1.length (fun j hj=>by
  unfold dK
  simp only
  rw[if_pos (by rw[pT];simp;omega),qG hj];simp only[aa]
  rw[aG (PA G V hn hj),aE (by have:=G.n5;omega)]) (by unfold dK;rw[pT];simp) (lX (by have:=G.n5;omega))
 have e0:(rm (a.2.1.length*g.1.length) fun _=>([] :List Int))=rm (a.2.1.length*g.1.length) fun z=>if z<0*a.2.1.length then nbC g a z else []:=ja fun z hz=>by rw[if_neg (by omega)]
 rw[e0,show (0:Int)=((0:Nat):Int) from rfl,aG this]
 congr 1
 refine ja fun z hz=>?_
 rw[if_pos (by rw[Nat.mul_comm g.1.length];exact hz)]
end
end D
namespace D
open Go.RowKit
def Qh {R S T:Type} (φ:S->T):Out R S->Out R T
 | .ret r=>.ret r
 | .nxt s=>.nxt (φ s)
 | .brk s=>.brk (φ s)
theorem yT {R S T:Type} {f:S->Option (Out R S)} {f':T->Option (Out R T)} (φ:S->T) (Inv:S->Prop)
  (h: ∀s,Inv s->f' (φ s)=(f s).map (Qh φ)) (hi: ∀s s',Inv s->f s=some (.nxt s')->Inv s'): ∀n s,Inv s->aF f' n (φ s)=(aF f n s).map (Qh φ)
 | 0,_,_=>rfl
 | n+1,s,hs=>by
  have e:=h s hs
  unfold aF
  rw[e]
  cases hf:f s with
  | none=>rfl
  | some o =>
   cases o with
   | ret r=>rfl
   | brk s'=>rfl
   | nxt s'=>exact yT φ Inv h hi n s' (hi s s' hs hf)
section
variable {a:AutT} {n:Nat} (V:VA a n) (hn:n<=12)
include V hn
theorem yU {s v:Int} (hs:0<=s/\s<n) (hv:0<=v/\v<=2):db a s v=some (cS a s v:Int):=by
 have e:=(lj V hn hs hv).1
 have k:=yT (f:=b8 a v) (f':=gV a v) (fun st=>(st.2,st.1)) (fun st=> -1<=st.2/\st.2<n) (by
  rintro ⟨m,s⟩ ⟨h0,h1⟩
  unfold gV b8
  simp only at h0 h1⊢
  by_cases c:0<=s
  ·simp only[decide_eq_true (show s≥0 from c),if_true,fB c,aa]
   have ew:IntKind.i64.wrap (6+v)=(((6+v).toNat:Nat):Int):=by rw[br (by omega) (by omega)];omega
   have e2:=BO V (s:=s) (k:=(6+v).toNat) c h1 (by omega)
   have e2:bp (a.1,a.2.1,a.2.2) s (((6+v).toNat:Nat):Int)=_:=e2
   rw[ew,e2,V.get c h1];simp only[aa]
   rw[V.get2 c h1 (by omega)];simp only[aa]
   split <;> rfl
  ·simp only[decide_eq_false (show¬s≥0 from c),Bool.false_eq_true,if_false];rfl) (by
  rintro ⟨m,s⟩ ⟨m',s'⟩ ⟨h0,h1⟩ hf
  unfold b8 at hf
  simp only at h0 h1 hf⊢
  by_cases c:0<=s
  ·simp only[decide_eq_true (show s≥0 from c),if_true,fB c,aa] at hf
   have ew:IntKind.i64.wrap (6+v)=(((6+v).toNat:Nat):Int):=by rw[br (by omega) (by omega)];omega
   have e2:=BO V (s:=s) (k:=(6+v).toNat) c h1 (by omega)
   have e2:bp (a.1,a.2.1,a.2.2) s (((6+v).toNat:Nat):Int)=_:=e2
   rw[ew,e2] at hf;simp only[aa] at hf
   split at hf
   ·cases hf
    exact V.mv c h1 (by omega)
   ·cases hf
  ·simp only[decide_eq_false (show¬s≥0 from c),Bool.false_eq_true,if_false] at hf;cases hf) a8 (0,s) ⟨by simp only;omega,hs.2⟩
 unfold de at e
 unfold db
 simp only at k
 rw[k]
 cases hl:aF (b8 a v) a8 (0,s) with
 | none=>rw[hl] at e;cases e
 | some o =>
  rw[hl] at e
  cases o with
  | ret r=>exact e
  | brk s'=>exact e
  | nxt s'=>cases e
end
def tQ (y:ArT):Int×Bool:=y.1
theorem Og {g:GrT} (G:GOk g) {x:Nat} :kN g x=some ((gQ g.2 x).map tQ):=by
 unfold kN
 have:=ba (f:=gA g x) (fun i=>((gQ (g.2.take i) x).map tQ,(i:Int))) g.2.length (fun i hi=>by
  unfold gA
  simp only
  have hm:=G.m
  have l1:=nz (g.2.take i) x
  have l3:(g.2.take i).length<=12:=by rw[aA];omega
  rw[if_pos (by simp;omega),aH (by omega) (by omega)];simp only[aa]
  rw[mW hi,aE (by omega)]
  generalize nth g.2 (i:Int)=e
  have ea:gQ (g.2.take i++ [e]) x=gQ (g.2.take i) x++JN e x:=by simp[gQ]
  rw[ea,aI]
  generalize hL:(gQ (g.2.take i) x).map tQ=L
  have hl:L.length<=24:=by rw[<-hL,List.length_map];omega
  unfold JN
  by_cases c1:e.2.1=(x:Int)
  ·rw[if_pos (by simpa using c1),if_pos c1,aR (by simp;omega)];simp only[aa]
   by_cases c2:e.2.2.1=(x:Int)
   ·rw[if_pos (by simpa using c2),if_pos c2,aR (by simp;omega)];simp[tQ,fwd,inv]
   ·rw[if_neg (by simpa using c2),if_neg c2];simp[tQ,fwd,inv]
  ·rw[if_neg (by simpa using c1),if_neg c1];simp only[aa]
   by_cases c2:e.2.2.1=(x:Int)
   ·rw[if_pos (by simpa using c2),if_pos c2,aR (by simp;omega)];simp[tQ,fwd,inv]
   ·rw[if_neg (by simpa using c2),if_neg c2];simp[tQ,fwd,inv]) (by unfold gA;simp) (lX (by have:=G.m;omega))
 have this:aF (gA g x) a8 (([] :List (Int×Bool)),0)=_:=this
 rw[this,List.take_length];rfl
theorem BT {g:GrT} (G:GOk g) {j:Nat} (hj:j<g.2.length):bs g (nth g.2 (j:Int)).1=some (j:Int):=by
 unfold bs
 have hm:=G.m
 obtain ⟨o,e,hq⟩:=dt (f:=bj g (nth g.2 (j:Int)).1) (fun i s=>s=(i:Int)/\i<=j) (fun o=>o= .ret (j:Int)) 12 (s:=0) (by
  rintro i s hi ⟨rfl,hij⟩
  unfold bj
  rw[if_pos (by simp;omega),aH (by omega) (by omega)];simp only[aa]
  by_cases c:i=j
  ·subst c
   exact .inr ⟨_,by rw[if_pos (by simp)],(fun s' e=>by cases e),rfl⟩
  ·have h1:=G.lt (i:=i) (j:=j) (by omega) hj
   exact .inl ⟨by omega,_,by rw[if_neg (by simp;omega),aE (by omega)],rfl,by omega⟩) ⟨rfl,by omega⟩ (by unfold a8;omega)
 subst hq
 rw[e];rfl
theorem IJ {g:GrT} (G:GOk g) {x:Nat} {y:ArT} (h:y∈gQ g.2 x): ∃(j:Int) (e:EdT),bs g y.1.1=some j/\aW g.2 j=some e/\dH e y.1.2=some y.2.1/\jx e y.1.2=some y.2.2:=by
 obtain ⟨e,he,hy⟩:=List.mem_flatMap.1 h
 obtain ⟨j,hj,rfl⟩:=tE he
 obtain ⟨h1,h2,h3⟩:=G.edge _ he
 refine ⟨j,nth g.2 (j:Int),?_,aH (by omega) (by omega),?_,?_⟩
 all_goals
  unfold JN at hy
  rcases aD hy with hy | hy <;> split at hy
  ·obtain rfl:=aw hy
   simp only[fwd]
   first | exact BT G hj | (unfold dH;rw[br (n:=2*_) (by omega) (by omega)];rfl) | (unfold jx;rfl)
  ·cases hy
  ·obtain rfl:=aw hy
   simp only[inv]
   first | exact BT G hj | (unfold dH;rw[br (n:=2*_) (by omega) (by omega),br (by omega) (by omega)];rfl) | (unfold jx;rfl)
  ·cases hy
abbrev JP:=(Int×Bool)×Int×Int
def stA (g:GrT) (a:AutT) (x s:Nat) (y:ArT):List JP:=(behind a s (nth g.1 x) y.2.1).map fun t=>(y.1,y.2.2,t)
def stV (g:GrT) (a:AutT) (x s:Nat):List JP:=(gQ g.2 x).flatMap (stA g a x s)
theorem Oh (g:GrT) (a:AutT) (x s:Nat):(stV g a x s).map (fun p=>p.2.1*(a.2.1.length:Int)+p.2.2)=nbV g a x s:=by
 unfold stV nbV
 rw[List.map_flatMap]
 congr 1
 funext y
 unfold stA nbA
 rw[List.map_map];rfl
section
variable {g:GrT} {a:AutT} (G:GOk g) (V:VA a a.2.1.length) (hn:a.2.1.length<=12)
include G V hn
theorem Mm {x s:Nat} {y:ArT} (hx:x<g.1.length) (hs:s<a.2.1.length) (hy:y∈gQ g.2 x):(stA g a x s y).length<=30:=by
 unfold stA;rw[List.length_map]
 exact (pU G V hn (s:=s) ⟨by omega,by omega⟩ (G.val _ (bP (by omega) (by omega))) (tK G hy).1).2.1
theorem PB {x:Nat} {i:Nat} {e:EdT} {o:List JP} {y:ArT} {C:Nat} (hC:C<2 ^ a.2.1.length) (hy:y∈gQ g.2 x) (hi:aW ((gQ g.2 x).map tQ) (i:Int)=some (tQ y)) (he:dH e y.1.2=some y.2.1) :
  aF (eV a (C:Int) ((gQ g.2 x).map tQ) (o,(i:Int)) e) a8 (0,0)=some (.brk ((afS a y.2.1.toNat C a.2.1.length:Int),(a.2.1.length:Int))):=by
 obtain ⟨k0,k1⟩:=(tK G hy).1
 have:=ba (f:=eV a (C:Int) ((gQ g.2 x).map tQ) (o,(i:Int)) e) (fun q=>((afS a y.2.1.toNat C q:Int),(q:Int))) a.2.1.length (fun q hq=>by
  unfold eV
  simp only
  have he:dH (e.1,e.2.1,e.2.2.1,e.2.2.2) (tQ y).2=some y.2.1:=he
  have ek:y.2.1=((y.2.1.toNat:Nat):Int):=by omega
  have em:=V.get2 (s:=(q:Int)) (k:=y.2.1.toNat) (by omega) (by omega) (by omega)
  rw[<-ek] at em
  have hlt:=FQ V (k:=y.2.1.toNat) (C:=C) (by omega) q (by omega)
  have hC':C<2 ^ 62:=az hC (p62 (by omega))
  have hmv:=(V.mv (s:=(q:Int)) (k:=y.2.1.toNat) (by omega) (by omega) (by omega)).2
  rw[if_pos (by simp;omega),V.get (by omega) (by omega)];simp only[aa]
  rw[hi];simp only[aa]
  rw[he];simp only[aa]
  rw[em];simp only[aa]
  rw[fB (by omega),tJ hC' (by omega),aE (by omega),afS];simp only[aa]
  by_cases b:C.testBit q=true
  ·rw[if_pos b]
   by_cases c:0<=D.mv a (q:Int) y.2.1.toNat
   ·obtain ⟨t,ht⟩: ∃t:Nat,D.mv a (q:Int) y.2.1.toNat=(t:Int):=⟨_,(Int.toNat_of_nonneg c).symm⟩
    rw[if_pos (by simpa using c),if_pos ⟨b,c⟩,fB c,ht,qF (by omega),BS (az hlt (p62 (by omega))) (Nat.pow_lt_pow_right (by decide) (by omega))];rfl
   ·rw[if_neg (by simpa using c),if_neg (fun h=>c h.2)];rfl
  ·rw[if_neg b,if_neg (fun h=>b h.1)];rfl) (by unfold eV;simp) (lX (by omega))
 exact this
theorem PC {x:Nat} {i:Nat} {e:EdT} {o:List JP} {y:ArT} {m:Nat} (hm:m<2 ^ a.2.1.length) (ho:o.length<=100000) (hi:aW ((gQ g.2 x).map tQ) (i:Int)=some (tQ y)) (he:jx e y.1.2=some y.2.2) {z:Int} :
  aF (eW a ((gQ g.2 x).map tQ) (o,(i:Int)) e ((m:Int),z)) a8 (o,0)=some (.brk (o++(c7 m 30).map (fun t=>(y.1,y.2.2,t)),(a.2.1.length:Int))):=by
 have:=ba (f:=eW a ((gQ g.2 x).map tQ) (o,(i:Int)) e ((m:Int),z)) (fun q=>(o++(c7 m q).map (fun t=>(y.1,y.2.2,t)),(q:Int))) a.2.1.length (fun q hq=>by
  unfold eW
  simp only
  have he:jx (e.1,e.2.1,e.2.2.1,e.2.2.2) (tQ y).2=some y.2.2:=he
  have hm':m<2 ^ 62:=az hm (p62 (by omega))
  have hl:=iE m q
  rw[if_pos (by simp;omega),fB (by omega),tJ hm' (by omega),aE (by omega),gi];simp only[aa]
  by_cases b:m.testBit q=true
  ·rw[if_pos b,if_pos b,hi];simp only[aa]
   rw[he];simp only[aa]
   rw[aR (by simp;omega)];simp only[aa,aI,ah];rfl
  ·rw[if_neg b,if_neg b];rfl) (by unfold eW;simp) (lX (by omega))
 rw[ny hm (show a.2.1.length<=30 by omega)]
 simpa [c7] using this
theorem Mn {x s:Nat} (hx:x<g.1.length) (hs:s<a.2.1.length):dE g a x s=some (stV g a x s):=by
 have hv:=G.val _ (bP (xs:=g.1) (i:=(x:Int)) (by omega) (by omega))
 have ec:=yU V hn (s:=(s:Int)) ⟨by omega,by omega⟩ hv
 have hC:=(lj V hn (s:=(s:Int)) ⟨by omega,by omega⟩ hv).2
 unfold dE
 rw[aH (by omega) (by omega)];simp only[aa]
 have ec:db (a.1,a.2.1,a.2.2) (s:Int) (nth g.1 (x:Int))=_:=ec
 have ef:kN (g.1,g.2) (x:Int)=_:=Og G
 rw[ec,ef];simp only[aa]
 generalize hCC:cS a (s:Int) (nth g.1 (x:Int))=C at hC
 have l1:=nz g.2 x
 have hm:=G.m
 have:=ba (f:=eX g a (C:Int) ((gQ g.2 x).map tQ)) (fun i=>(((gQ g.2 x).take i).flatMap (stA g a x s),(i:Int))) (gQ g.2 x).length (fun i hi=>by
  unfold eX
  simp only
  have hy:=List.getElem_mem hi
  generalize hyy:(gQ g.2 x)[i] =y at hy
  have hi2:aW ((gQ g.2 x).map tQ) (i:Int)=some (tQ y):=by rw[bm (by simpa using hi)];simp[hyy]
  obtain ⟨j,e,e1,e2,e3,e4⟩:=IJ G hy
  obtain ⟨k0,k1⟩:=(tK G hy).1
  rw[if_pos (by simp;omega),hi2];simp only[aa]
  have e1:bs (g.1,g.2) (tQ y).1=_:=e1
  rw[e1];simp only[aa]
  rw[e2];simp only[aa]
  rw[aG (PB G V hn hC hy hi2 e3)]
  have hlt:=FQ V (k:=y.2.1.toNat) (C:=C) (by omega) a.2.1.length (aB _)
  have hol:=mX (f:=stA g a x s) (B:=30) (xs:=(gQ g.2 x).take i) fun z hz=>Mm G V hn hx hs (List.mem_of_mem_take hz)
  have hol2:((gQ g.2 x).take i).length<=24:=by rw[aA];omega
  rw[aG (PC G V hn hlt (by omega) hi2 e4),aE (by omega)]
  congr 3
  have et:(gQ g.2 x).take (i+1)=(gQ g.2 x).take i++ [y]:=by rw[List.take_add_one];simp[hi,hyy]
  rw[et,List.flatMap_append]
  congr 1
  simp only[List.flatMap_cons,List.flatMap_nil,List.append_nil]
  unfold stA behind
  rw[hCC,ny hC (show a.2.1.length<=30 by omega),AB]) (by unfold eX;simp) (lX (by omega))
 rw[List.take_length] at this
 have this:aF (eX g a (C:Int) ((gQ g.2 x).map tQ)) a8 (([] :List JP),0)=_:=this
 rw[aG this];rfl
end
end D
namespace D
open Go.RowKit
abbrev BfT:=List Int×List Int
def JQ (d:Int) (s:BfT) (x:Int):BfT:=if nth s.1 x<0 then (s.1.set x.toNat d,s.2++ [x]) else s
def vn (d:Int) (s:BfT) (xs:List Int):BfT:=xs.foldl (JQ d) s
theorem yV (d:Int) (s:BfT) (xs:List Int) (x:Int):vn d s (xs++ [x])=JQ d (vn d s xs) x:=by simp[vn]
structure BI (N:Nat) (s:BfT):Prop where
 len:s.1.length=N
 nd:s.2.Nodup
 rng: ∀x∈s.2,0<=x/\x<N
 seen: ∀x:Int,0<=x->x<N->(nth s.1 x<0↔x∉s.2)
 top: ∀x:Int,0<=x->x<N-> -1<=nth s.1 x/\nth s.1 x<s.2.length
theorem BI.le {N:Nat} {s:BfT} (h:BI N s):s.2.length<=N:=by
 have:=h.nd.length_le_of_subset (l₂:=(List.range N).map fun i:Nat=>(i:Int)) (fun x hx=>by
  obtain ⟨h0,h1⟩:=h.rng x hx
  exact List.mem_map.2 ⟨x.toNat,List.mem_range.2 (by omega),by omega⟩)
 simpa using this
theorem BI.one {N:Nat} {s:BfT} (h:BI N s) {d x:Int} (hx:0<=x/\x<N) (hd:0<=d/\d<=s.2.length):BI N (JQ d s x)/\s.2 <+:(JQ d s x).2/\ ∀y,0<=y->0<=nth s.1 y->nth (JQ d s x).1 y=nth s.1 y:=by
 unfold JQ
 split
 ·rename_i hn
  have hnot:=(h.seen x hx.1 hx.2).1 hn
  refine ⟨⟨by simp[h.len],?_,?_,?_,?_⟩,List.prefix_append _ _,?_⟩
  ·exact List.nodup_append.2 ⟨h.nd,by simp,by rintro a ha b hb rfl;simp at hb;exact hnot (hb ▸ ha)⟩
  ·intro y hy
   rcases aD hy with hy | hy
   ·exact h.rng y hy
   ·obtain rfl:y=x:=by simpa using hy
    exact hx
  ·intro y h0 h1
   by_cases e:x=y
   ·subst e
    rw[iC hx.1 (by rw[h.len];exact hx.2)]
    simp;omega
   ·rw[jf hx.1 h0 e,h.seen y h0 h1]
    simp;omega
  ·intro y h0 h1
   by_cases e:x=y
   ·subst e
    rw[iC hx.1 (by rw[h.len];exact hx.2)]
    simp;omega
   ·rw[jf hx.1 h0 e]
    have:=h.top y h0 h1
    simp;omega
  ·intro y h0 h1
   refine jf hx.1 h0 ?_
   rintro rfl
   omega
 ·exact ⟨h,List.prefix_refl _,fun y _ _=>rfl⟩
theorem BI.all {N:Nat} {d:Int} : ∀ {xs:List Int} {s:BfT},BI N s->(∀x∈xs,0<=x/\x<N)->(0<=d/\d<=s.2.length)->BI N (vn d s xs)/\s.2 <+:(vn d s xs).2/\ ∀y,0<=y->0<=nth s.1 y->nth (vn d s xs).1 y=nth s.1 y
 | [],s,h,_,_=>⟨h,List.prefix_refl _,fun _ _ _=>rfl⟩
 | x::xs,s,h,hx,hd=>by
  obtain ⟨h1,h2,h3⟩:=h.one (hx x (by simp)) hd
  have hl:=h2.length_le
  obtain ⟨k1,k2,k3⟩:=BI.all (xs:=xs) h1 (fun y hy=>hx y (by simp[hy])) ⟨hd.1,by omega⟩
  refine ⟨k1,h2.trans k2,fun y h0 hy=>?_⟩
  have e:=h3 y h0 hy
  exact (k3 y h0 (by rw[e];exact hy)).trans e
def bsS (nx:Int->List Int) (N:Nat) (v:Int):Nat->BfT
 | 0=>((List.replicate N (-1)).set v.toNat 0,[v])
 | i+1=>match (bsS nx N v i).2[i]? with
  | some x=>vn (nth (bsS nx N v i).1 x+1) (bsS nx N v i) (nx x)
  | none=>bsS nx N v i
section
variable {nx:Int->List Int} {N:Nat} {v:Int} (hv:0<=v/\v<N) (hn: ∀x:Int,0<=x->x<N-> ∀y∈nx x,0<=y/\y<N)
include hv
theorem Mo {x:Int} (h0:0<=x) (h1:x<N):nth (List.replicate N (-1:Int)) x= -1:=by
 have:x.toNat<N:=by omega
 simp[nth,List.getD_eq_getElem?_getD,List.getElem?_replicate,this]
theorem BI.zero:BI N (bsS nx N v 0):=by
 refine ⟨by simp[bsS],by simp[bsS],fun x hx=>?_,fun x h0 h1=>?_,fun x h0 h1=>?_⟩
 ·obtain rfl:x=v:=by simpa [bsS] using hx
  exact hv
 all_goals
  unfold bsS
  by_cases e:v=x
  ·subst e
   rw[iC hv.1 (by simpa using hv.2)]
   simp
  ·rw[jf hv.1 h0 e,Mo hv h0 h1]
   first | omega | (simp;omega) | simp
include hn
theorem wO {i:Nat} (h:BI N (bsS nx N v i)):BI N (bsS nx N v (i+1))/\(bsS nx N v i).2 <+:(bsS nx N v (i+1)).2:=by
 rw[bsS]
 split
 ·rename_i x hx
  have hm:=List.mem_of_getElem? hx
  obtain ⟨x0,x1⟩:=h.rng x hm
  have hp: ¬nth (bsS nx N v i).1 x<0:=fun c=>(h.seen x x0 x1).1 c hm
  have ht:=h.top x x0 x1
  obtain ⟨k1,k2,_⟩:=h.all (xs:=nx x) (d:=nth (bsS nx N v i).1 x+1) (hn x x0 x1) ⟨by omega,by omega⟩
  exact ⟨k1,k2⟩
 ·exact ⟨h,List.prefix_refl _⟩
theorem tL: ∀i,BI N (bsS nx N v i)
 | 0=>BI.zero hv
 | i+1=>(wO hv hn (tL i)).1
theorem FW: ∃K,K<=N/\K=(bsS nx N v K).2.length/\ ∀i,i<K->i<(bsS nx N v i).2.length:=by
 have key: ∀m i,i+m=N->(∀j,j<i->j<(bsS nx N v j).2.length)-> ∃K,K<=N/\K=(bsS nx N v K).2.length/\ ∀i,i<K->i<(bsS nx N v i).2.length:=by
  have hge: ∀i,(∀j,j<i->j<(bsS nx N v j).2.length)->i<=(bsS nx N v i).2.length:=by
   intro i hj
   cases i with
   | zero=>omega
   | succ i =>
    have:=hj i (by omega)
    have hp:=(wO hv hn (tL hv hn i)).2.length_le
    omega
  intro m
  induction m with
  | zero =>
   intro i hi hj
   have h1:=(tL hv hn i).le
   have h2:=hge i hj
   exact ⟨i,by omega,by omega,hj⟩
  | succ m ih =>
   intro i hi hj
   by_cases h:i<(bsS nx N v i).2.length
   ·exact ih (i+1) (by omega) fun j hj'=>by
     by_cases e:j=i
     ·subst e;exact h
     ·exact hj j (by omega)
   ·have h2:=hge i hj
    exact ⟨i,by omega,by omega,hj⟩
 exact key N 0 (by omega) (by omega)
end
end D
namespace D
open Go.RowKit
theorem Mq:(List.range 61).all (fun N=>decide (bN [-1] (N:Int)=some (List.replicate N (-1))))=true:=by kernel_rfl
theorem PD {N:Nat} (h:N<=60):bN [-1] (N:Int)=some (List.replicate N (-1)):=
 of_decide_eq_true (List.all_eq_true.1 Mq N (List.mem_range.2 (by omega)))
theorem IK {α:Type} {xs:List α} {i:Nat} {x:α} (h:i<=xs.length):(xs++ [x]).drop i=xs.drop i++ [x]:=List.drop_append_of_le_length h
theorem vo {α:Type} {xs:List α} {i:Nat} {x:α} (h:xs[i]? =some x):aW (xs.drop i) 0=some x:=by
 unfold aW
 rw[if_pos (by decide)]
 simpa using h
section
variable {nx:Int->List Int} {N:Nat} {v:Int} (hN:N<=60) (hv:0<=v/\v<N) (hn: ∀x:Int,0<=x->x<N-> ∀y∈nx x,0<=y/\y<N) (hl: ∀x,(nx x).length<=100000)
include hN hv hn hl
theorem Mr {i:Nat} {x:Int} (hx:(bsS nx N v i).2[i]? =some x) (j:Nat) :
  BI N (vn (nth (bsS nx N v i).1 x+1) (bsS nx N v i) ((nx x).take j))/\(vn (nth (bsS nx N v i).1 x+1) (bsS nx N v i) ((nx x).take j)).2[i]? =some x/\nth (vn (nth (bsS nx N v i).1 x+1) (bsS nx N v i) ((nx x).take j)).1 x=nth (bsS nx N v i).1 x/\(0<=x/\x<N)/\(0<=nth (bsS nx N v i).1 x/\nth (bsS nx N v i).1 x<60)/\i<(vn (nth (bsS nx N v i).1 x+1) (bsS nx N v i) ((nx x).take j)).2.length:=by
 have h:=tL hv hn i
 have hm:=List.mem_of_getElem? hx
 obtain ⟨x0,x1⟩:=h.rng x hm
 have hp: ¬nth (bsS nx N v i).1 x<0:=fun c=>(h.seen x x0 x1).1 c hm
 have ht:=h.top x x0 x1
 have hle:=h.le
 obtain ⟨k1,k2,k3⟩:=h.all (xs:=(nx x).take j) (d:=nth (bsS nx N v i).1 x+1) (fun y hy=>hn x x0 x1 y (List.mem_of_mem_take hy)) ⟨by omega,by omega⟩
 obtain ⟨t,ht'⟩:=k2
 have hi:=(List.getElem?_eq_some_iff.1 hx).1
 have e:(vn (nth (bsS nx N v i).1 x+1) (bsS nx N v i) ((nx x).take j)).2[i]? =some x:=by
  rw[<-ht',List.getElem?_append_left hi,hx]
 exact ⟨k1,e,k3 x x0 (by omega),⟨x0,x1⟩,⟨by omega,by omega⟩,(List.getElem?_eq_some_iff.1 e).1⟩
theorem PE {i:Nat} {x:Int} (hx:(bsS nx N v i).2[i]? =some x) :
  aF (gC (nx x)) a8 ((bsS nx N v i).2.drop i,0,(bsS nx N v i).1)=some (.brk ((bsS nx N v (i+1)).2.drop i,((nx x).length:Int),(bsS nx N v (i+1)).1)):=by
 have:=ba (f:=gC (nx x)) (fun j=>((vn (nth (bsS nx N v i).1 x+1) (bsS nx N v i) ((nx x).take j)).2.drop i,(j:Int),(vn (nth (bsS nx N v i).1 x+1) (bsS nx N v i) ((nx x).take j)).1)) (nx x).length (fun j hj=>by
  have hlx:=hl x
  obtain ⟨k1,k2,k3,⟨x0,x1⟩,k4,k5⟩:=Mr hN hv hn hl hx j
  have hy:=hn x x0 x1 _ (bP (xs:=nx x) (i:=(j:Int)) (by omega) (by omega))
  unfold gC
  simp only
  rw[mW hj,yV]
  generalize vn (nth (bsS nx N v i).1 x+1) (bsS nx N v i) ((nx x).take j)=s at k1 k2 k3 k5
  have hle:=k1.le
  have hlen:=k1.len
  rw[if_pos (by simp;omega),aH (by omega) (by omega)];simp only[aa]
  rw[aH (xs:=s.1) hy.1 (by omega)];simp only[aa]
  rw[vo k2];simp only[aa]
  rw[aH (xs:=s.1) x0 (by omega)];simp only[aa]
  rw[aR (by simp;omega),aE (by omega),k3,br (by omega) (by omega)]
  unfold JQ
  by_cases c:nth s.1 (nth (nx x) (j:Int))<0
  ·rw[if_pos (by simpa using c),if_pos c,IK (by omega)];rfl
  ·rw[if_neg (by simpa using c),if_neg c];rfl) (by unfold gC;simp) (lX (by have:=hl x;omega))
 rw[List.take_length] at this
 have e:bsS nx N v (i+1)=vn (nth (bsS nx N v i).1 x+1) (bsS nx N v i) (nx x):=by rw[bsS,hx]
 rw[e]
 exact this
theorem IL {K:Nat} (hK:K<=N) (hE:K=(bsS nx N v K).2.length) (hR: ∀i,i<K->i<(bsS nx N v i).2.length):nl (rm N fun z=>nx (z:Int)) [v] =some (bsS nx N v K).1:=by
 unfold nl
 rw[pT,PD hN];simp only[aa]
 have e0:aF (cz [v]) a8 (([] :List Int),0,List.replicate N (-1))=some (.brk ([v],1,(bsS nx N v 0).1)):=by
  have:=ba (f:=cz [v]) (fun j=>if j=0 then (([] :List Int),(0:Int),List.replicate N (-1:Int)) else ([v],1,(bsS nx N v 0).1)) 1 (fun j hj=>by
   obtain rfl:j=0:=by omega
   unfold cz
   simp only[if_true]
   rw[if_pos (by simp),show aW [v] 0=some v from rfl];simp only[aa]
   rw[aH (xs:=List.replicate N (-1)) hv.1 (by simpa using hv.2)];simp only[aa]
   rw[aR (by simp)];rfl) (by unfold cz;simp) (by unfold a8;omega)
  exact this
 rw[aG e0]
 have:=ba (f:=gD (rm N fun z=>nx (z:Int))) (fun i=>((bsS nx N v i).2.drop i,(bsS nx N v i).1)) K (fun i hi=>by
  have hi2:=hR i hi
  obtain ⟨x,hx⟩: ∃x,(bsS nx N v i).2[i]? =some x:=⟨_,List.getElem?_eq_getElem hi2⟩
  obtain ⟨k1,k2,k3,⟨x0,x1⟩,k4,k5⟩:=Mr hN hv hn hl hx 0
  unfold gD
  simp only
  rw[if_pos (by simp;omega),vo hx];simp only[aa]
  obtain ⟨z,rfl⟩: ∃z:Nat,x=(z:Int):=⟨_,(Int.toNat_of_nonneg x0).symm⟩
  rw[qG (by omega)];simp only[aa]
  rw[aG (PE hN hv hn hl hx)]
  have hp:=(wO hv hn (tL hv hn i)).2.length_le
  rw[fB (by simp;omega)];simp only[aa]
  rw[List.drop_drop]) (by
  unfold gD
  rw[if_neg (by simp;omega)]) (lX (by omega))
 have this:aF (gD (rm N fun z=>nx (z:Int))) a8 ([v],(bsS nx N v 0).1)=_:=this
 rw[aG this]
end
end D
namespace D
open Go.RowKit
theorem wP {n:Nat} {r:List Int} :(∀t∈r,-1<=t/\t<=(n:Int) - 1)↔ ∀t∈r,-1<=t/\t<(n:Int):=forall_congr' fun t=>forall_congr' fun _=>and_congr Iff.rfl (by omega)
theorem Oi (a:AutT) (h1:a.2.1.length<=9223372036854775807) (h2:a.2.2.length<=9223372036854775807): ∃b,jz a=some b/\(b=true↔VA a a.2.1.length):=by
 unfold jz
 rw[L9];simp only[aa,lg h1]
 by_cases c1:0<=a.1/\a.1<=(a.2.1.length:Int) - 1
 case neg=>exact ⟨false,by rw[if_neg (by simpa using c1)],by simp;exact fun h=>c1 ⟨h.start.1,by have:=h.start.2;omega⟩⟩
 rw[if_pos (by simpa using c1)]
 by_cases c2:a.2.2.length=a.2.1.length
 case neg=>exact ⟨false,by rw[if_pos (by simp;omega)],by simp;exact fun h=>c2 h.nlen⟩
 rw[if_neg (by simp;omega)]
 have inner: ∀i:Nat,i<a.2.2.length->(nth a.2.2 i).length=9->(aF (eh a i) a8 0=some (.brk 9)/\ ∀t∈nth a.2.2 (i:Int),-1<=t/\t<=(a.2.1.length:Int) - 1)\/(aF (eh a i) a8 0=some (.ret false)/\ ¬ ∀t∈nth a.2.2 (i:Int),-1<=t/\t<=(a.2.1.length:Int) - 1):=by
  intro i hi hr
  have:=scan (f:=eh a i) (nth a.2.2 (i:Int)) (fun t=> -1<=t/\t<=(a.2.1.length:Int) - 1) false (by omega) (fun j hj=>by
   unfold eh
   rw[if_pos (by simp;omega),aH (by omega) (by omega)];simp only[aa]
   rw[aH (by omega) (by omega)];simp only[aa,lg h1]
   rw[L9];simp only[aa,aE (show j<9223372036854775807 by omega)]
   by_cases c: -1<=nth (nth a.2.2 (i:Int)) (j:Int)/\nth (nth a.2.2 (i:Int)) (j:Int)<=(a.2.1.length:Int) - 1
   ·rw[if_pos (by simpa using c),if_pos c]
   ·rw[if_neg (by simpa using c),if_neg c]) (by unfold eh;rw[if_neg (by simp[hr])])
  rwa [hr] at this
 have outer:=scan (f:=il a) a.2.2 (fun r=>r.length=9/\ ∀t∈r,-1<=t/\t<=(a.2.1.length:Int) - 1) false h2 (fun i hi=>by
  unfold il
  rw[if_pos (by simp;omega),aH (by omega) (by omega)];simp only[aa]
  by_cases c:(nth a.2.2 (i:Int)).length=9
  ·rw[if_neg (by simp;omega)]
   rcases inner i hi c with ⟨e,k⟩ | ⟨e,k⟩
   ·rw[aG e,if_pos ⟨c,k⟩,aE (show i<9223372036854775807 by omega)]
   ·rw[cm e,if_neg (fun h=>k h.2)]
  ·rw[if_pos (by simp;omega),if_neg (fun h=>c h.1)]) (by unfold il;rw[if_neg (by simp;omega)])
 rcases outer with ⟨e,k⟩ | ⟨e,k⟩
 ·exact ⟨true,by rw[aG e],by simp;exact ⟨rfl,⟨c1.1,by omega⟩,c2,fun r hr=>(k r hr).1,fun r hr=>wP.1 (k r hr).2⟩⟩
 ·exact ⟨false,by rw[cm e],by simp;exact fun h=>k fun r hr=>⟨h.row r hr,wP.2 (h.ent r hr)⟩⟩
theorem Ms (a:AutT) (h1:a.2.1.length<=9223372036854775807) (h2:a.2.2.length<=9223372036854775807): ∃b,bQ a=some b/\(b=true↔a.2.1.length<=12/\VA a a.2.1.length):=by
 unfold bQ
 by_cases c:a.2.1.length<=12
 ·rw[if_pos (by simp;omega)]
  obtain ⟨b,e,hb⟩:=Oi a h1 h2
  exact ⟨b,by show (jz a).bind _=_;rw[e];rfl,by rw[hb];simp[c]⟩
 ·exact ⟨false,by rw[if_neg (by simp;omega)],by simp;exact fun h=>absurd h c⟩
theorem Mt (a:AutT) (h1:a.2.1.length<=9223372036854775807) (h2:a.2.2.length<=9223372036854775807) (h3: ∀r∈a.2.2,r.length<=9223372036854775807): ∃b,bR a=some b/\(b=true↔a.2.1.length<=12/\VA a a.2.1.length):=by
 unfold bR
 rw[Ir];simp only[aa,lg h1]
 by_cases c0:1<=(a.2.1.length:Int)/\(a.2.1.length:Int)<=12
 case neg=>exact ⟨false,by rw[if_neg (by simpa using c0)],by simp;exact fun h h'=>c0 ⟨by have:=h'.start;omega,by omega⟩⟩
 rw[if_pos (by simpa using c0),Ir];simp only[aa]
 by_cases c1:0<=a.1/\a.1<=(a.2.1.length:Int) - 1
 case neg=>exact ⟨false,by rw[if_neg (by simpa using c1)],by simp;exact fun _ h=>c1 ⟨h.start.1,by have:=h.start.2;omega⟩⟩
 rw[if_pos (by simpa using c1)]
 by_cases c2:a.2.2.length=a.2.1.length
 case neg=>exact ⟨false,by rw[if_pos (by simp;omega)],by simp;exact fun _ h=>c2 h.nlen⟩
 rw[if_neg (by simp;omega)]
 have inner: ∀x:List Int,x.length<=9223372036854775807->(aF (bu a x) a8 0=some (.brk (x.length:Int))/\ ∀t∈x,-1<=t/\t<=(a.2.1.length:Int) - 1)\/(aF (bu a x) a8 0=some (.ret false)/\ ¬ ∀t∈x,-1<=t/\t<=(a.2.1.length:Int) - 1):=by
  intro x hx
  refine scan (f:=bu a x) x (fun t=> -1<=t/\t<=(a.2.1.length:Int) - 1) false hx (fun j hj=>?_) (by unfold bu;rw[if_neg (by simp)])
  unfold bu
  rw[if_pos (by simp;omega),aH (by omega) (by omega)];simp only[aa,lg h1]
  rw[Ir];simp only[aa,aE (show j<9223372036854775807 by omega)]
  by_cases c: -1<=nth x (j:Int)/\nth x (j:Int)<=(a.2.1.length:Int) - 1
  ·rw[if_pos (by simpa using c),if_pos c]
  ·rw[if_neg (by simpa using c),if_neg c]
 have outer:=scan (f:=cy a) a.2.2 (fun r=>(∀t∈r,-1<=t/\t<=(a.2.1.length:Int) - 1)/\r.length=9) false h2 (fun i hi=>by
  unfold cy
  rw[if_pos (by simp;omega),aH (by omega) (by omega)];simp only[aa]
  rcases inner (nth a.2.2 (i:Int)) (h3 _ (bP (by omega) (by omega))) with ⟨e,k⟩ | ⟨e,k⟩
  ·rw[aG e]
   by_cases c:(nth a.2.2 (i:Int)).length=9
   ·rw[if_neg (by simp;omega),if_pos ⟨k,c⟩,aE (show i<9223372036854775807 by omega)]
   ·rw[if_pos (by simp;omega),if_neg (fun h=>c h.2)]
  ·rw[cm e,if_neg (fun h=>k h.1)]) (by unfold cy;rw[if_neg (by simp)])
 rcases outer with ⟨e,k⟩ | ⟨e,k⟩
 ·exact ⟨true,by rw[aG e],by simp;exact ⟨by omega,rfl,⟨c1.1,by omega⟩,c2,fun r hr=>(k r hr).2,fun r hr=>wP.1 (k r hr).1⟩⟩
 ·exact ⟨false,by rw[cm e],by simp;exact fun _ h=>k fun r hr=>⟨wP.2 (h.ent r hr),h.row r hr⟩⟩
end D
namespace D
open Go.RowKit
theorem pV (g:GrT):bE g=bc g:=by
 have h0:jy g=cL g:=rfl
 have h1:fW g=bV g:=by
  funext s
  unfold fW bV
  split
  ·cases hx:aW g.2 s with
   | none=>rfl
   | some x=>rfl
  ·rfl
 unfold bE bc
 rw[h0,h1];rfl
def GOOD (g:GrT) (a:AutT):Prop:=GOk g/\a.2.1.length<=12/\VA a a.2.1.length
theorem Mu (g:GrT) (a:AutT) (hg:Data.sm g) (ha:Data.sm a): ∃b c,bE g=some b/\bc g=some b/\bQ a=some c/\bR a=some c/\(b=true↔GOkF g)/\(c=true↔a.2.1.length<=12/\VA a a.2.1.length):=by
 obtain ⟨b,e1,k1⟩:=rK g (dg hg.1).1 (dg hg.2).1
 have hb:=(dg ha.2.1).1
 have hn:=dg ha.2.2
 obtain ⟨c,e2,k2⟩:=Mt a (by omega) (by omega) (fun r hr=>by have:=(dg (hn.2 r hr)).1;omega)
 obtain ⟨c',e3,k3⟩:=Ms a (by omega) (by omega)
 have hc:c'=c:=by
  cases c <;> cases c' <;> simp_all
 subst hc
 exact ⟨b,c',by rw[pV,e1],e1,e3,e2,k1,k2⟩
theorem wQ (g:GrT) (a:AutT) (hg:Data.sm g) (ha:Data.sm a) (x:Int): ∃b,fe g a x 0=some b/\cH g a [x] =some b/\(b=true↔(GOkF g/\GOOD g a)/\0<=x/\x<g.1.length):=by
 obtain ⟨b,c,e1,e2,e3,e4,k1,k2⟩:=Mu g a hg ha
 have hl:=(dg hg.1).1
 have hla:=(dg ha.2.1).1
 have ew:IntKind.i64.wrap ((g.1.length:Int) - 1)=(g.1.length:Int) - 1:=br (by omega) (by omega)
 have ew2:IntKind.i64.wrap ((a.2.1.length:Int) - 1)=(a.2.1.length:Int) - 1:=br (by omega) (by omega)
 have es:fe g a x 0=some (b&&(c&&(decide (0<=x/\x<=(g.1.length:Int) - 1)))):=by
  unfold fe
  have e1:bE (g.1,g.2)=_:=e1
  have e3:bQ (a.1,a.2.1,a.2.2)=_:=e3
  rw[e1,e3,L9,L9,ew,ew2];simp only[aa]
  cases b <;> cases c <;> simp only[Bool.false_eq_true,if_false,if_true,Bool.false_and,Bool.true_and]
  by_cases h:0<=x/\x<=(g.1.length:Int) - 1
  ·have:=(k2.1 rfl).2.start
   simp only[h,and_self,decide_true,if_true]
   rw[decide_eq_true (by omega)]
  ·rw[decide_eq_false h];rfl
 have ei:cH g a [x] =some (b&&(c&&(decide (0<=x/\x<=(g.1.length:Int) - 1)))):=by
  unfold cH
  have e2:bc (g.1,g.2)=_:=e2
  have e4:bR (a.1,a.2.1,a.2.2)=_:=e4
  rcases FN (f:=iQ g [x]) 1 (fun _=>0<=x/\x<=(g.1.length:Int) - 1) false (by decide) (fun i hi=>by
   obtain rfl:i=0:=by omega
   unfold iQ
   rw[if_pos (by simp),show aW [x] ((0:Nat):Int)=some x from rfl];simp only[aa]
   rw[Ir,ew];simp only[aa,decide_eq_true_eq]
   split <;> rfl) (by unfold iQ;simp) with ⟨k,h⟩ | ⟨k,h⟩
  ·rw[aG k,e2,e4];simp only[aa]
   rw[decide_eq_true (h 0 (by decide))]
   cases b <;> cases c <;> rfl
  ·rw[cm k,decide_eq_false (fun c=>h fun _ _=>c)]
   cases b <;> cases c <;> rfl
 refine ⟨_,es,ei,fun hb=>?_,fun hb=>?_⟩
 ·simp only[af,decide_eq_true_eq] at hb
  obtain ⟨h1,h2,h3⟩:=hb
  exact ⟨⟨k1.1 h1,(k1.1 h1).1,(k2.1 h2).1,(k2.1 h2).2⟩,h3.1,by omega⟩
 ·simp only[af,decide_eq_true_eq]
  exact ⟨k1.2 hb.1.1,k2.2 hb.1.2.2,hb.2.1,by have:=hb.2.2;omega⟩
theorem FX (g:GrT) (a:AutT) (hg:Data.sm g) (ha:Data.sm a) (x:Int): ∃b,fe g a x 0=some b/\cH g a [x] =some b/\(b=true->GOOD g a/\0<=x/\x<g.1.length):=by
 obtain ⟨b,h1,h2,h3⟩:=wQ g a hg ha x
 exact ⟨b,h1,h2,fun h=>⟨(h3.1 h).1.2,(h3.1 h).2⟩⟩
def nxC (g:GrT) (a:AutT) (z:Int):List Int:=nbC g a z.toNat
section
variable {g:GrT} {a:AutT} (H:GOOD g a)
include H
theorem GOOD.divmod {x:Int} (h0:0<=x) (h1:x<(a.2.1.length*g.1.length:Nat)):x.toNat / a.2.1.length<g.1.length/\x.toNat % a.2.1.length<a.2.1.length:=by
 have hp:=H.2.2.pos
 exact ⟨(Nat.div_lt_iff_lt_mul hp).2 (by rw[Nat.mul_comm];omega),Nat.mod_lt _ hp⟩
theorem Oj (x:Int) (h0:0<=x) (h1:x<(a.2.1.length*g.1.length:Nat)): ∀y∈nxC g a x,0<=y/\y<(a.2.1.length*g.1.length:Nat):=by
 obtain ⟨k1,k2⟩:=H.divmod h0 h1
 exact Oe H.1 H.2.2 H.2.1 k1 k2
theorem Mv {x:Int} (h0:0<=x) (h1:x<(a.2.1.length*g.1.length:Nat)):(nxC g a x).length<=720:=by
 obtain ⟨k1,k2⟩:=H.divmod h0 h1
 have:=mX (f:=nbA g a (x.toNat / a.2.1.length) (x.toNat % a.2.1.length)) (B:=30) (xs:=gQ g.2 (x.toNat / a.2.1.length)) fun y hy=>FV H.1 H.2.2 H.2.1 k1 k2 hy
 have l1:=nz g.2 (x.toNat / a.2.1.length)
 have:=H.1.m
 show (nbV g a _ _).length<=720
 unfold nbV
 omega
end
def nxN (g:GrT) (a:AutT) (z:Int):List Int:=if 0<=z/\z<(a.2.1.length*g.1.length:Nat) then nxC g a z else []
section
variable {g:GrT} {a:AutT} (H:GOOD g a)
include H
theorem ln: ∀x:Int,0<=x->x<(a.2.1.length*g.1.length:Nat)-> ∀y∈nxN g a x,0<=y/\y<(a.2.1.length*g.1.length:Nat):=fun x h0 h1=>by
 unfold nxN;rw[if_pos ⟨h0,h1⟩];exact Oj H x h0 h1
theorem oK (x:Int):(nxN g a x).length<=720:=by
 unfold nxN;split
 ·rename_i h;exact Mv H h.1 h.2
 ·simp
theorem FY:bT g a=some (rm (a.2.1.length*g.1.length) fun z=>nxN g a (z:Int)):=by
 rw[Ml H.1 H.2.2 H.2.1]
 congr 1
 refine ja fun z hz=>?_
 unfold nxN
 rw[if_pos ⟨by omega,by omega⟩];rfl
theorem BU {x:Int} (h0:0<=x) (h1:x<(a.2.1.length*g.1.length:Nat)): ∃l:List JP,dE g a (w7 x (a.2.1.length:Int)) (Int.tmod x (a.2.1.length:Int))=some l/\l.map (fun p=>p.2.1*(a.2.1.length:Int)+p.2.2)=nxN g a x/\ ∀p∈l,(0<=p.2.1/\p.2.1<60)/\0<=p.2.2/\p.2.2<60:=by
 obtain ⟨k1,k2⟩:=H.divmod h0 h1
 have hp:=H.2.2.pos
 have hN:=nN H.1 H.2.2 H.2.1
 have e1:w7 x (a.2.1.length:Int)=((x.toNat / a.2.1.length:Nat):Int):=by
  unfold w7
  have:x.tdiv (a.2.1.length:Int)=((x.toNat / a.2.1.length:Nat):Int):=by
   rw[Int.tdiv_eq_ediv_of_nonneg h0]
   rw[show x / (a.2.1.length:Int)=((x.toNat:Nat):Int) / (a.2.1.length:Int) from by rw[Int.toNat_of_nonneg h0]]
   simp
  rw[this,pM (by have:=H.1.n5;omega)]
 have e2:Int.tmod x (a.2.1.length:Int)=((x.toNat % a.2.1.length:Nat):Int):=by
  rw[Int.tmod_eq_emod_of_nonneg h0]
  rw[show x % (a.2.1.length:Int)=((x.toNat:Nat):Int) % (a.2.1.length:Int) from by rw[Int.toNat_of_nonneg h0]]
  simp
 refine ⟨_,by rw[e1,e2];exact Mn H.1 H.2.2 H.2.1 k1 k2,?_,fun p hp=>?_⟩
 ·rw[Oh];unfold nxN;rw[if_pos ⟨h0,h1⟩];rfl
 ·obtain ⟨y,hy,hp⟩:=List.mem_flatMap.1 hp
  obtain ⟨t,ht,rfl⟩:=List.mem_map.1 hp
  have h2:=(tK H.1 hy).2
  have h3:=(pU H.1 H.2.2 H.2.1 (s:=((x.toNat % a.2.1.length:Nat):Int)) ⟨by omega,by omega⟩ (H.1.val _ (bP (xs:=g.1) (i:=((x.toNat / a.2.1.length:Nat):Int)) (Int.natCast_nonneg _) (Int.ofNat_lt.2 k1))) (tK H.1 hy).1).1 t ht
  have:=H.1.n5
  have:=H.2.1
  exact ⟨⟨h2.1,by simp only;omega⟩,h3.1,by simp only;omega⟩
end
def RKs (g:GrT) (a:AutT) (v:Int):List Int:=(bsS (nxN g a) (a.2.1.length*g.1.length) v (a.2.1.length*g.1.length)).1
theorem wR {nx:Int->List Int} {N:Nat} {v:Int} (hv:0<=v/\v<N) (hn: ∀x:Int,0<=x->x<N-> ∀y∈nx x,0<=y/\y<N) {K:Nat} (hE:K=(bsS nx N v K).2.length): ∀d,bsS nx N v (K+d)=bsS nx N v K
 | 0=>rfl
 | d+1=>by
  have ih:=wR hv hn hE d
  rw[<-Nat.add_assoc,bsS,ih]
  have:(bsS nx N v K).2[K+d]? =none:=List.getElem?_eq_none (by omega)
  rw[this]
section
variable {g:GrT} {a:AutT} (H:GOOD g a) {x:Int} (hx:0<=x/\x<g.1.length)
include H hx
theorem JR:0<=x*(a.2.1.length:Int)+a.1/\x*(a.2.1.length:Int)+a.1<(a.2.1.length*g.1.length:Nat):=by
 obtain ⟨z,rfl⟩: ∃z:Nat,x=(z:Int):=⟨_,(Int.toNat_of_nonneg hx.1).symm⟩
 have hs:=H.2.2.start
 obtain ⟨s,hs'⟩: ∃s:Nat,a.1=(s:Int):=⟨_,(Int.toNat_of_nonneg hs.1).symm⟩
 rw[hs'] at hs⊢
 have:=cN H.1 H.2.2 H.2.1 (x:=z) (s:=s) (by omega) (by omega)
 constructor
 ·exact Int.add_nonneg (Int.mul_nonneg (by omega) (by omega)) (by omega)
 ·exact_mod_cast this
theorem JS:IntKind.i64.wrap ((IntKind.i64.wrap (x*(a.2.1.length:Int)))+a.1)=x*(a.2.1.length:Int)+a.1:=by
 have h:=JR H hx
 have hN:=nN H.1 H.2.2 H.2.1
 have hs:=H.2.2.start
 have hn:=H.2.1
 have h5:=H.1.n5
 rw[br (n:=x*(a.2.1.length:Int)) (by omega) (by omega),br (by omega) (by omega)]
theorem Ol:BI (a.2.1.length*g.1.length) (bsS (nxN g a) (a.2.1.length*g.1.length) (x*(a.2.1.length:Int)+a.1) (a.2.1.length*g.1.length)):=tL (JR H hx) (ln H) _
theorem vp:(RKs g a (x*(a.2.1.length:Int)+a.1)).length=a.2.1.length*g.1.length:=(Ol H hx).len
theorem JT {i:Int} (h0:0<=i) (h1:i<(a.2.1.length*g.1.length:Nat)): -1<=nth (RKs g a (x*(a.2.1.length:Int)+a.1)) i/\nth (RKs g a (x*(a.2.1.length:Int)+a.1)) i<60:=by
 have h:=Ol H hx
 have ht:=h.top i h0 h1
 have hl:=h.le
 have hN:=nN H.1 H.2.2 H.2.1
 unfold RKs
 omega
theorem JU (e:cH g a [x] =some true):bK g a x=some (RKs g a (x*(a.2.1.length:Int)+a.1)):=by
 unfold bK
 have e:cH (g.1,g.2) (a.1,a.2.1,a.2.2) [x] =_:=e
 rw[e];simp only[aa,if_true]
 have e2:bT (g.1,g.2) (a.1,a.2.1,a.2.2)=_:=FY H
 rw[e2];simp only[aa]
 have hN:=nN H.1 H.2.2 H.2.1
 obtain ⟨K,hK,hE,hR⟩:=FW (JR H hx) (ln H)
 rw[JS H hx,IL hN (JR H hx) (ln H) (fun x=>by have:=oK H x;omega) hK hE hR];simp only[aa]
 have hk:bsS (nxN g a) (a.2.1.length*g.1.length) (x*(a.2.1.length:Int)+a.1) K=bsS (nxN g a) (a.2.1.length*g.1.length) (x*(a.2.1.length:Int)+a.1) (a.2.1.length*g.1.length):=by
  have:=wR (JR H hx) (ln H) hE (a.2.1.length*g.1.length - K)
  rw[show K+(a.2.1.length*g.1.length - K)=a.2.1.length*g.1.length from by omega] at this
  exact this.symm
 have hl:=vp H hx
 rw[hk]
 show ((chk _).bind fun _=>_).bind _=_
 have hv:=JR H hx
 rw[fB (by rw[show (bsS _ _ _ _).1.length=_ from hl];omega)];rfl
theorem PF {o1 o2:List Int} {i:Nat} {z:Int} {l:List JP} (hz:(bsS (nxN g a) (a.2.1.length*g.1.length) (x*(a.2.1.length:Int)+a.1) i).2[i]? =some z)
  (hl:l.map (fun p=>p.2.1*(a.2.1.length:Int)+p.2.2)=nxN g a z) (hp: ∀p∈l,(0<=p.2.1/\p.2.1<60)/\0<=p.2.2/\p.2.2<60) :
  aF (eZ a (o1,o2,(i:Int)) l) a8 ((bsS (nxN g a) (a.2.1.length*g.1.length) (x*(a.2.1.length:Int)+a.1) i).1,(bsS (nxN g a) (a.2.1.length*g.1.length) (x*(a.2.1.length:Int)+a.1) i).2,0)=some (.brk ((bsS (nxN g a) (a.2.1.length*g.1.length) (x*(a.2.1.length:Int)+a.1) (i+1)).1,(bsS (nxN g a) (a.2.1.length*g.1.length) (x*(a.2.1.length:Int)+a.1) (i+1)).2,(l.length:Int))):=by
 have hN:=nN H.1 H.2.2 H.2.1
 have hv:=JR H hx
 have hnn:=H.2.1
 generalize hV:x*(a.2.1.length:Int)+a.1=v at hz hv⊢
 have hlen:l.length<=720:=by have:=oK H z;rw[<-hl,List.length_map] at this;exact this
 have e:bsS (nxN g a) (a.2.1.length*g.1.length) v (i+1)=vn (nth (bsS (nxN g a) (a.2.1.length*g.1.length) v i).1 z+1) (bsS (nxN g a) (a.2.1.length*g.1.length) v i) (nxN g a z):=by rw[bsS,hz]
 have:=ba (f:=eZ a (o1,o2,(i:Int)) l) (fun j=>((vn (nth (bsS (nxN g a) (a.2.1.length*g.1.length) v i).1 z+1) (bsS (nxN g a) (a.2.1.length*g.1.length) v i) ((nxN g a z).take j)).1,(vn (nth (bsS (nxN g a) (a.2.1.length*g.1.length) v i).1 z+1) (bsS (nxN g a) (a.2.1.length*g.1.length) v i) ((nxN g a z).take j)).2,(j:Int))) l.length (fun j hj=>by
  obtain ⟨k1,k2,k3,⟨x0,x1⟩,k4,k5⟩:=Mr hN hv (ln H) (fun x=>by have:=oK H x;omega) hz j
  have hjn:j<(nxN g a z).length:=by rw[<-hl,List.length_map];exact hj
  have hy:=ln H z x0 x1 _ (bP (xs:=nxN g a z) (i:=(j:Int)) (by omega) (by omega))
  have hq:=hp _ (bP (xs:=l) (i:=(j:Int)) (by omega) (by omega))
  have hyl:nth (nxN g a z) (j:Int)=(nth l (j:Int)).2.1*(a.2.1.length:Int)+(nth l (j:Int)).2.2:=by rw[<-hl,Fv (by omega) (by omega)]
  unfold eZ
  simp only
  rw[mW hjn,yV]
  generalize vn (nth (bsS (nxN g a) (a.2.1.length*g.1.length) v i).1 z+1) (bsS (nxN g a) (a.2.1.length*g.1.length) v i) ((nxN g a z).take j)=s at k1 k2 k3 k5
  have hle:=k1.le
  have hsl:=k1.len
  rw[if_pos (by simp;omega),aH (by omega) (by omega)];simp only[aa]
  rw[br (n:=(nth l (j:Int)).2.1*(a.2.1.length:Int)) (by omega) (by omega),<-hyl,br (by omega) (by omega)]
  rw[aH (xs:=s.1) hy.1 (by omega)];simp only[aa]
  rw[show aW s.2 (i:Int)=some z from by unfold aW;rw[if_pos (by omega)];exact k2];simp only[aa]
  rw[aH (xs:=s.1) x0 (by omega)];simp only[aa]
  rw[aR (by simp;omega),aE (by omega),k3,br (by omega) (by omega)]
  unfold JQ
  by_cases c:nth s.1 (nth (nxN g a z) (j:Int))<0
  ·rw[if_pos (by simpa using c),if_pos c];rfl
  ·rw[if_neg (by simpa using c),if_neg c];rfl) (by unfold eZ;simp) (lX (by omega))
 have et:(nxN g a z).take l.length=nxN g a z:=by
  have:l.length=(nxN g a z).length:=by rw[<-hl,List.length_map]
  rw[this,List.take_length]
 rw[et] at this
 rw[e]
 exact this
theorem FZ:fb g a x=some (RKs g a (x*(a.2.1.length:Int)+a.1)):=by
 have hN:=nN H.1 H.2.2 H.2.1
 have hv:=JR H hx
 have hpos:=H.2.2.pos
 unfold fb
 have ew:IntKind.i64.wrap ((g.1.length:Int)*(a.2.1.length:Int))=((a.2.1.length*g.1.length:Nat):Int):=by
  rw[show ((g.1.length:Int)*(a.2.1.length:Int))=((a.2.1.length*g.1.length:Nat):Int) from by rw[Nat.mul_comm];simp,pM (by omega)]
 have e0:aF (eY g a) a8 (([] :List Int),0)=some (.brk (List.replicate (a.2.1.length*g.1.length) (-1),((a.2.1.length*g.1.length:Nat):Int))):=by
  have:=ba (f:=eY g a) (fun i=>(List.replicate i (-1),(i:Int))) (a.2.1.length*g.1.length) (fun i hi=>by
   unfold eY
   simp only
   rw[ew,if_pos (by simp only[decide_eq_true_eq];omega),aR (by simp;omega),aE (by omega)];simp only[aa]
   rw[List.replicate_succ']) (by unfold eY;simp only;rw[ew,if_neg (by simp)]) (lX (by omega))
  exact this
 rw[aG e0,JS H hx]
 simp only
 generalize hV:x*(a.2.1.length:Int)+a.1=v at hv
 rw[show aW [v] 0=some v from rfl];simp only[aa]
 rw[aH (xs:=List.replicate _ (-1:Int)) hv.1 (by simpa using hv.2)];simp only[aa]
 obtain ⟨K,hK,hE,hR⟩:=FW hv (ln H)
 have:=ba (f:=fa g a) (fun i=>((bsS (nxN g a) (a.2.1.length*g.1.length) v i).1,(bsS (nxN g a) (a.2.1.length*g.1.length) v i).2,(i:Int))) K (fun i hi=>by
  have hi2:=hR i hi
  obtain ⟨z,hz⟩: ∃z,(bsS (nxN g a) (a.2.1.length*g.1.length) v i).2[i]? =some z:=⟨_,List.getElem?_eq_getElem hi2⟩
  obtain ⟨z0,z1⟩:=(tL hv (ln H) i).rng z (List.mem_of_getElem? hz)
  obtain ⟨l,es,hl,hp⟩:=BU H z0 z1
  have es:dE (g.1,g.2) (a.1,a.2.1,a.2.2) (w7 z (a.2.1.length:Int)) (Int.tmod z (a.2.1.length:Int))=_:=es
  unfold fa
  simp only
  rw[if_pos (by simp only[decide_eq_true_eq];omega)]
  rw[show aW (bsS (nxN g a) (a.2.1.length*g.1.length) v i).2 (i:Int)=some z from by unfold aW;rw[if_pos (by omega)];exact hz];simp only[aa]
  rw[fB (by omega),es];simp only[aa]
  have h2:=PF H hx (o1:=(bsS (nxN g a) (a.2.1.length*g.1.length) v i).1) (o2:=(bsS (nxN g a) (a.2.1.length*g.1.length) v i).2) (by rw[hV];exact hz) hl hp
  rw[hV] at h2
  rw[aG h2,aE (by omega)]) (by unfold fa;simp only;rw[if_neg (by simp;omega)]) (lX (by omega))
 have this:aF (fa g a) a8 ((List.replicate (a.2.1.length*g.1.length) (-1)).set v.toNat 0,[v],0)=_:=this
 rw[aG this]
 simp only
 have:=wR hv (ln H) hE (a.2.1.length*g.1.length - K)
 rw[show K+(a.2.1.length*g.1.length - K)=a.2.1.length*g.1.length from by omega] at this
 unfold RKs
 rw[this]
end
end D
namespace D
open Go.RowKit
section
variable {a:AutT} {n:Nat}
end
end D
namespace D
open Go.RowKit
end D
open Go.ChangeShapes Go.WideShapes Go.ChangeAt Go.RowKit
theorem own:ownKnob Tryz.prog.godebug=none:=by kernel_rfl
theorem laidOut:laidOutB Tryz.prog=true:=by kernel_rfl
theorem pW {H:Type} {enc:TypeId×Value->H} {P:Program} (hl:laidOutB P=true) {W W':World} (hb:Below W.heap.size W W') :
  ∀ {ts:List TypeId} {vs:List Value} {ds:List (DataW H)} {ps:List MemPlace},(∀t∈ts,P.readableRec t=true/\t<P.types.size)->
   DataW.TrodAll enc P W 0 (fun _=>true) true ts vs ds ps->(∀x∈ps,x.block<W.heap.size)->DataW.TrodAll enc P W' 0 (fun b=>decide (b<W.heap.size)) true ts vs ds ps
 | [],[],[],ps,_,h,_=>h
 | t::ts,v::vs,d::ds,ps,hr,⟨p,q,h1,h2,h3⟩,hlt=>by
  subst h3
  exact ⟨p,q,Below.trod hl (hr t (by simp)).1 (hr t (by simp)).2 h1 hb fun x hx=>hlt x (by simp[hx]),pW hl hb (fun t ht=>hr t (by simp[ht])) h2 fun x hx=>hlt x (by simp[hx]),rfl⟩
 | [],_::_,_,_,_,h,_=>h.elim
 | [],[],_::_,_,_,h,_=>h.elim
 | _::_,[],_,_,_,h,_=>h.elim
 | _::_,_::_,[],_,_,h,_=>h.elim
theorem IM {H:Type} {enc:TypeId×Value->H} {f:Func} {s:ChangeSpec} {W W':World} {args:Array Value} {ds:List (DataW H)} {before:List MemPlace} (tb:TypeId)
  (hb:Tryz.prog.underlying tb=some .bool) (hr:f.resultTypes= #[tb]) (hp:(f.params.toList.all fun t=>Tryz.prog.readableRec t&&decide (t<Tryz.prog.types.size))=true) (hv:s.vars= [])
  (hW:DataW.Whole enc Tryz.prog f.params.toList s.vars false W args.toList ds [] before) (hres:(s.fn H (ds++ [])).results= [.lit (.bool true)]) (hargs:(s.fn H (ds++ [])).args=ds) (hvars:(s.fn H (ds++ [])).vars= [])
  (hbel:Below W.heap.size W W'):s.post enc Tryz.prog f false true false false W args (.bool true) W':=by
 obtain ⟨p,q,h1,h2,h3,h4,h5⟩:=hW
 have hW':DataW.Whole enc Tryz.prog f.params.toList s.vars false W args.toList ds [] before:=⟨p,q,h1,h2,h3,h4,h5⟩
 have hq:q= []:=by rw[hv] at h2;exact h2
 subst hq
 simp only[List.append_nil] at h3
 subst h3
 refine ⟨ds,[],before,[],before,[],hW',?_,?_,?_,hbel.frame _,fun h=>by cases h⟩
 ·rw[hres,hr]
  exact trodAll_mk1 (shut_bool hb true)
 ·rw[hargs]
  exact pW laidOut hbel (fun t ht=>by have:=List.all_eq_true.1 hp t ht;simpa using this) h1 fun x hx=>by simpa using hW'.lt x hx
 ·rw[hvars,hv];rfl
namespace D
open Go.RowKit
theorem AC (x y:AutT) (hx:Data.sm x):dB x y=some (decide (x=y)):=by
 obtain ⟨-,⟨ha,-⟩,hn,hr⟩:=hx
 unfold dB
 by_cases c1:x.1=y.1
 case neg=>rw[if_pos (by simpa using c1)];simp[Prod.ext_iff,c1]
 rw[if_neg (by simpa using c1)]
 by_cases c2:x.2.1.length=y.2.1.length
 case neg=>rw[if_pos (by simp;omega)];simp[Prod.ext_iff];exact fun _ e=>absurd (by rw[e]) c2
 rw[if_neg (by simp;omega)]
 by_cases c3:x.2.2.length=y.2.2.length
 case neg=>rw[if_pos (by simp;omega)];simp[Prod.ext_iff];exact fun _ _ e=>absurd (by rw[e]) c3
 rw[if_neg (by simp;omega)]
 rw[eqB (f:=dn x y) x.2.1 y.2.1 (by omega) c2 (fun i h h'=>by
  simp only[dn,iN h,if_true,bm h,bm h',aa,aE (show i<9223372036854775807 by omega)]
  by_cases c:x.2.1[i] =y.2.1[i] <;> simp[c]) (by simp only[dn,gO];rfl)]
 by_cases c4:x.2.1=y.2.1
 case neg=>rw[if_neg c4];simp[Prod.ext_iff,c4]
 rw[if_pos c4]
 rw[eqB (f:=dq x y) x.2.2 y.2.2 (by omega) c3 (fun i h h'=>by
  obtain ⟨r,e,hr'⟩:=Az x.2.2[i] y.2.2[i] ((hr _ (List.getElem_mem h)).1)
  simp only[dq,iN h,if_true,bm h,bm h',aa,aE (show i<9223372036854775807 by omega),e]
  by_cases c:x.2.2[i] =y.2.2[i]
  ·rw[if_neg (by simpa using hr'.2 c),if_pos c]
  ·rw[if_pos (by simpa using fun e=>c (hr'.1 e)),if_neg c]) (by simp only[dq,gO];rfl)]
 by_cases c5:x.2.2=y.2.2
 ·rw[if_pos c5];simp[Prod.ext_iff,c1,c4,c5]
 ·rw[if_neg c5];simp[Prod.ext_iff,c5]
theorem IN (xs ys:List Bool) (hN:xs.length<=9223372036854775807):cA xs ys=some (decide (xs=ys)):=
 eqL (f:=bw xs ys) xs ys hN (fun i h h'=>by
  simp only[bw,iN h,if_true,bm h,bm h',aa,aE (show i<9223372036854775807 by omega)]
  by_cases c:xs[i] =ys[i] <;> simp[c]) (by simp only[bw,gO];rfl)
theorem AD (x y:AutT) (hx:Data.sm x):dA x y=some (decide (x=y)):=by
 obtain ⟨-,⟨ha,-⟩,hn,hr⟩:=hx
 unfold dA
 by_cases c1:x.1=y.1
 case neg=>rw[if_neg (by simpa using c1)];simp[Prod.ext_iff,c1]
 rw[if_pos (by simpa using c1),IN _ _ (by omega)];simp only[aa]
 by_cases c2:x.2.1=y.2.1
 case neg=>rw[if_neg (by simpa using c2)];simp[Prod.ext_iff,c2]
 rw[if_pos (by simpa using c2)]
 have:a7 x.2.2 y.2.2 (fun a0 a1=>dL a0 a1)=some (decide (x.2.2=y.2.2)):=
  eqL (f:=aO x.2.2 y.2.2 _) x.2.2 y.2.2 (by omega) (fun i h h'=>by
   simp only[aO,iN h,if_true,bm h,bm h',aa,aE (show i<9223372036854775807 by omega),dL]
   rw[tH _ _ (by have:x.2.2[i].length<=1048576:=(hr _ (List.getElem_mem h)).1;omega)];simp only[aa]
   by_cases c:x.2.2[i] =y.2.2[i] <;> simp[c]) (by simp only[aO,gO];rfl)
 rw[this]
 by_cases c3:x.2.2=y.2.2 <;> simp[Prod.ext_iff,c1,c2,c3]
end D
set_option synthInstance.maxSize 20000
set_option synthInstance.maxHeartbeats 2000000
namespace D
open Go.RowKit
theorem vq {R S:Type} {f g:S->Option (Out R S)} (Inv:Nat->S->Prop) (h: ∀i s,Inv i s->g s=f s/\ ∀s',f s=some (.nxt s')->Inv (i+1) s'): ∀(k i:Nat) (s:S),Inv i s->aF g k s=aF f k s
 | 0,_,_,_=>rfl
 | k+1,i,s,hI=>by
  obtain ⟨h1,h2⟩:=h i s hI
  rw[aF,aF,h1]
  cases e:f s with
  | none=>rfl
  | some o =>
   cases o with
   | nxt s'=>exact vq Inv h k (i+1) s' (h2 s' e)
   | brk s'=>rfl
   | ret r=>rfl
end D
set_option synthInstance.maxSize 20000
set_option synthInstance.maxHeartbeats 2000000
namespace D
open Go.RowKit
abbrev Qt:=Int×(List GrT)
theorem oL (g:GrT) (hg:Data.sm g):bC g=some g:=by
 have h1:=(dg hg.1).1
 have h2:=(dg hg.2).1
 unfold bC
 rw[aR (by simp;omega)];simp only[aa,List.nil_append]
 rw[aR (by simp;omega)];rfl
theorem wS (g:GrT) (hg:Data.sm g):dI g=some g:=by
 have h1:=(dg hg.1).1
 have h2:=(dg hg.2).1
 unfold dI cg
 rw[aR (by simp;omega)];simp only[aa,List.nil_append]
 rw[aR (by simp;omega)];rfl
def okG (h:Qt) (g:GrT):Prop:=bc g=some true/\g.1=(nth h.2 0).1
instance (h g):Decidable (okG h g):=by unfold okG;infer_instance
end D
namespace D
abbrev Pr:=Int×Int
def ltP (a b:Pr):Prop:=a.1<b.1\/a.1=b.1/\a.2<b.2
instance (a b:Pr):Decidable (ltP a b):=inferInstanceAs (Decidable (_\/_))
end D
namespace D
open Go.RowKit
theorem AE {α R:Type} {f:Int->Option (Out R Int)} (l:List α) (b:α->Bool) (r:Nat->R) (hN:l.length<=9223372036854775807) (h: ∀i (hi:i<l.length),f (i:Int)=some (if b l[i] then .ret (r i) else .nxt ((i+1:Nat):Int))) (he:f (l.length:Int)=some (.brk (l.length:Int))) :
  (∃(i:Nat) (hi:i<l.length),b l[i] =true/\(∀j (hj:j<i),b (l[j]'(by omega))=false)/\aF f a8 0=some (.ret (r i)))\/((∀x,x∈l->b x=false)/\aF f a8 0=some (.brk (l.length:Int))):=by
 obtain ⟨o,e,hQ⟩:=dt (f:=f) (fun i s=>s=(i:Int)/\ ∀j (hj:j<l.length),j<i->b l[j] =false) (fun o=>(∃(i:Nat) (hi:i<l.length),b l[i] =true/\(∀j (hj:j<i),b (l[j]'(by omega))=false)/\o= .ret (r i))\/((∀x,x∈l->b x=false)/\o= .brk (l.length:Int))) l.length (fun i s hi hI=>by
  obtain ⟨rfl,hI⟩:=hI
  by_cases h1:i<l.length
  ·cases hb:b l[i] with
   | true=>exact .inr ⟨_,by rw[h i h1,hb,if_pos rfl],fun s' hh=>by simp at hh,.inl ⟨i,h1,hb,fun j hj=>hI j (by omega) hj,by simp⟩⟩
   | false=>exact .inl ⟨h1,_,by rw[h i h1,hb,if_neg (by simp)],rfl,fun j hj hji=>by
     by_cases c:j=i
     ·subst c;exact hb
     ·exact hI j hj (by omega)⟩
  ·obtain rfl:i=l.length:=by omega
   exact .inr ⟨_,he,fun s' hh=>by simp at hh,.inr ⟨fun x hx=>by
    obtain ⟨j,hj,rfl⟩:=List.getElem_of_mem hx
    exact hI j hj hj,rfl⟩⟩) (s:=0) ⟨rfl,fun j hj h0=>by omega⟩ (ld _ hN)
 rcases hQ with ⟨i,hi,h1,h2,rfl⟩ | ⟨h1,rfl⟩
 ·exact .inl ⟨i,hi,h1,h2,e⟩
 ·exact .inr ⟨h1,e⟩
section
variable {l m:List Pr} {p:Pr}
end
end D
namespace D
open Go.RowKit
def cntN (o:List Int):Nat:=o.countP fun x=>decide (0<=x)
theorem IP {o:List Int} {k:Int} {v:Int} (h0:0<=k) (h1:k<o.length) (hk:nth o k<0) (hv:0<=v):cntN (o.set k.toNat v)=cntN o+1:=by
 have hl:k.toNat<o.length:=by omega
 have e:nth o k=o[k.toNat]:=by
  have:=cT (xs:=o) (i:=k.toNat) hl
  rwa [show ((k.toNat:Nat):Int)=k by omega] at this
 unfold cntN
 rw[List.countP_set hl,<-e,if_neg (by simpa using hk),if_pos (by simpa using hv)];omega
structure DI (N:Nat) (nx:Int->List Int) (src:Int->Prop) (Q o:List Int) (i:Nat) (b:Int):Prop where
 len:o.length=N
 q: ∀t∈Q,(0<=t/\t<N)/\0<=nth o t
 rng: ∀t:Int,0<=t->t<N-> -1<=nth o t/\nth o t<=b
 zero: ∀t:Int,0<=t->t<N->(nth o t=0↔src t)
 pred: ∀t:Int,0<=t->t<N->0<nth o t-> ∃u:Int,0<=u/\u<N/\t∈nx u/\nth o u=nth o t - 1
 closed: ∀u:Int,0<=u->u<N->0<=nth o u->u∈Q\/ ∀t∈nx u,0<=nth o t/\nth o t<=nth o u+1
 sorted:Q.Pairwise fun x y=>nth o x<=nth o y
 span: ∀h:Int,Q.head? =some h-> ∀t:Int,0<=t->t<N->nth o t<=nth o h+1
 all:i+Q.length=cntN o
section
variable {N:Nat} {nx:Int->List Int} {src:Int->Prop} (hn: ∀x:Int,0<=x->x<N-> ∀y∈nx x,0<=y/\y<N)
include hn
omit hn in
theorem Mw {vs:List Int} (hN:N<=1000) (hv: ∀v∈vs,0<=v/\v<N) (hd:vs.Nodup) :
  ∃o,aF (cz vs) a8 ([],0,List.replicate N (-1))=some (.brk (vs,(vs.length:Int),o))/\DI N nx (· ∈ vs) vs o 0 0:=by
 have hle:vs.length<=N:=by
  have:=hd.length_le_of_subset (l₂:=(List.range N).map fun i:Nat=>(i:Int)) (fun x hx=>by
   obtain ⟨h0,h1⟩:=hv x hx
   exact List.mem_map.2 ⟨x.toNat,List.mem_range.2 (by omega),by omega⟩)
  simpa using this
 have hrep: ∀t:Int,0<=t->t<N->nth (List.replicate N (-1:Int)) t= -1:=fun t t0 t1=>by
  have:t.toNat<N:=by omega
  simp[nth,List.getD_eq_getElem?_getD,List.getElem?_replicate,this]
 obtain ⟨st,e,o,rfl,hl,hz,hc⟩:=lf (f:=cz vs) (fun j st=> ∃o,st=(vs.take j,(j:Int),o)/\o.length=N/\(∀t:Int,0<=t->t<N->nth o t=if t∈vs.take j then 0 else -1)/\j=cntN o) vs.length (by
  rintro j st hj ⟨o,rfl,hl,hz,hc⟩
  obtain ⟨v0,v1⟩:=hv _ (List.getElem_mem hj)
  have hnot:vs[j] ∉ vs.take j:=fun h=>by
   obtain ⟨q,hq,e⟩:=List.getElem_of_mem h
   rw[aA] at hq
   rw[List.getElem_take] at e
   have:=(List.getElem_inj hd).1 e
   omega
  unfold cz
  simp only
  rw[iN hj,if_pos rfl,bm hj];simp only[aa]
  rw[aH v0 (by omega),aR (by simp;omega),aE (by omega)];simp only[aa]
  refine ⟨_,rfl,o.set vs[j].toNat 0,?_,by rw[List.length_set];exact hl,fun t t0 t1=>?_,?_⟩
  ·rw[List.take_succ_eq_append_getElem hj]
  ·by_cases e:vs[j] =t
   ·subst e
    rw[iC v0 (by omega),if_pos (by rw[List.take_succ_eq_append_getElem hj];exact List.mem_append.2 (.inr (List.mem_singleton.2 rfl)))]
   ·rw[jf v0 t0 e,hz t t0 t1]
    have:t∈vs.take (j+1)↔t∈vs.take j:=by
     rw[List.take_succ_eq_append_getElem hj,List.mem_append,List.mem_singleton]
     exact ⟨fun h=>h.resolve_right fun h=>e h.symm,.inl⟩
    simp only[this]
  ·rw[IP v0 (by omega) (by rw[hz _ v0 v1,if_neg hnot];omega) (by omega),<-hc]) (by
  rintro st ⟨o,rfl,-⟩
  unfold cz
  simp only
  rw[gO];rfl) (s:=([],0,List.replicate N (-1))) ⟨List.replicate N (-1),by simp,by simp,fun t t0 t1=>by rw[hrep t t0 t1];simp,by
   unfold cntN
   symm
   rw[List.countP_eq_zero]
   intro x hx
   obtain ⟨-,rfl⟩:=List.mem_replicate.1 hx
   simp⟩ (lX (by omega))
 rw[List.take_of_length_le (aB _)] at e hz
 have hin: ∀t∈vs,nth o t=0:=fun t ht=>by rw[hz t (hv t ht).1 (hv t ht).2,if_pos ht]
 have hval: ∀t:Int,0<=t->t<N->(nth o t=0/\t∈vs)\/(nth o t= -1/\t∉vs):=fun t t0 t1=>by
  rw[hz t t0 t1]
  by_cases h:t∈vs
  ·exact .inl ⟨if_pos h,h⟩
  ·exact .inr ⟨if_neg h,h⟩
 refine ⟨o,e,hl,fun t ht=>⟨hv t ht,by rw[hin t ht];omega⟩,fun t t0 t1=>?_,fun t t0 t1=>?_,fun t t0 t1 h=>?_,fun u u0 u1 hu=>.inl ?_,?_,fun h hh t t0 t1=>?_,by omega⟩
 ·rcases hval t t0 t1 with ⟨h,-⟩ | ⟨h,-⟩ <;> omega
 ·rcases hval t t0 t1 with ⟨h,h2⟩ | ⟨h,h2⟩
  ·exact ⟨fun _=>h2,fun _=>h⟩
  ·exact ⟨fun h3=>by omega,fun h3=>absurd h3 h2⟩
 ·rcases hval t t0 t1 with ⟨h2,-⟩ | ⟨h2,-⟩ <;> omega
 ·rcases hval u u0 u1 with ⟨-,h2⟩ | ⟨h2,-⟩
  ·exact h2
  ·omega
 ·exact List.Pairwise.imp_of_mem (fun {x y} hx hy _=>by rw[hin x hx,hin y hy];omega) hd
 ·have:h∈vs:=List.mem_of_head? hh
  have:=hin h this
  rcases hval t t0 t1 with ⟨h2,-⟩ | ⟨h2,-⟩ <;> omega
end
end D
end Go.Proofs.YtgfhbkngckodnaaGreat
