/- FnContainment: for every input the law returns true and changes nothing that was there. Part 6 of 8. -/
import Derived.Test.YtfbgafccgaoepaaGreatKC4
set_option synthInstance.maxSize 20000
set_option synthInstance.maxHeartbeats 2000000
set_option linter.unusedVariables false
set_option linter.unusedSimpArgs false
set_option linter.unnecessarySimpa false
set_option linter.unusedSectionVars false
set_option maxRecDepth 1000000
namespace Go.Proofs.YtfbgafccgaoepaaGreat
open Go.IntKind (i64)
namespace R
open Go.RowKit
open D
theorem JB:FOk Tryz.prog 77 AL:=fk [(24,iO)] ⟨jx,trivial⟩ Tryz.func77 .no
theorem lP:FOk Tryz.prog 42 ju:=fk [(24,iO),(77,AL)] ⟨jx,JB,trivial⟩ Tryz.func42 (.t (.two (.t (.loop [.s 3] .no)) (.two (.t (.loop [.s 4] .no)) .no)))
theorem yQ:FOk Tryz.prog 132 tx:=fk [] trivial Tryz.func132 .no
theorem sd:FOk Tryz.prog 85 oO:=fk [(132,tx)] ⟨yQ,trivial⟩ Tryz.func85 (.t (.t (.two (.loop [.s 5] .no) .no))) (an:=[(36,.bool)])
theorem F8:FOk Tryz.prog 130 yD:=fk [(24,iO),(42,ju)] ⟨jx,lP,trivial⟩ Tryz.func130 .no
theorem uP:FOk Tryz.prog 79 nM:=fk [(42,ju),(85,oO),(130,yD)] ⟨lP,sd,F8,trivial⟩ Tryz.func79 (.t (.t (.t (.two (.t (.loop [.slot 5 (.own 84 y84),.s 6] (.t (.join [.slot 5 (.own 84 y84)] .no .no)))) (.two (.t (.loop [.slot 5 (.own 84 y84),.s 7] (.t (.join [.slot 5 (.own 84 y84)] (.t (.join [.slot 5 (.own 84 y84)] .no .no)) .no)))) .no)))))
theorem pL:FOk Tryz.prog 80 mY:=fk [(90,tw)] ⟨yP,trivial⟩ Tryz.func80 (.t (.t (.t (.two (.loop [.s 3,.s 4] .no) .no))))
theorem jb:FOk Tryz.prog 81 fA:=fk [(85,oO)] ⟨sd,trivial⟩ Tryz.func81 (.t (.t (.two (.t (.loop [.slot 5 (.own 84 y84),.s 6] (.t (.two (.t (.loop [.slot 5 (.own 84 y84),.s 7] (.t (.join [.slot 5 (.own 84 y84)] .no .no)))) .no)))) .no)))
theorem ox:FOk Tryz.prog 82 kV:=fk [(85,oO)] ⟨sd,trivial⟩ Tryz.func82 (.t (.t (.two (.t (.loop [.slot 5 (.own 84 y84),.s 6] .no)) (.two (.t (.loop [.slot 5 (.own 84 y84),.s 7] .no)) .no))))
theorem wM:FOk Tryz.prog 131 qU:=fk [(24,iO),(132,tx)] ⟨jx,yQ,trivial⟩ Tryz.func131 (.t (.two (.t (.loop [.s 3] .no)) .no))
theorem tE:FOk Tryz.prog 83 mZ:=fk [(24,iO),(78,fy),(81,fA),(82,kV),(131,qU)] ⟨jx,ja,jb,ox,wM,trivial⟩ Tryz.func83 (.t (.t (.t (.two (.t (.loop [.slot 5 (.own 84 y84),.s 6] .no)) .no))))
theorem vV:FOk Tryz.prog 84 oP:=fk [(24,iO),(78,fy),(81,fA),(82,kV),(131,qU)] ⟨jx,ja,jb,ox,wM,trivial⟩ Tryz.func84 (.t (.t (.t (.t (.two (.t (.loop [.slot 9 (.own 84 y84),.slot 10 (.own 84 y84),.s 11] (.t (.two (.join [.slot 9 (.own 84 y84)] .no .no) .no)))) .no)))))
theorem tF: ∀n,FOk Tryz.prog 43 (na n)
 | 0=>eX (f:=na 0) (enters_of Tryz.func43 (by kernel_rfl) rfl) rfl (fun d=>rfl)
 | n+1=>by
  have ih:=tF n
  exact fk [(43,(na n)),(78,fy),(79,nM),(80,mY),(81,fA),(82,kV),(83,mZ),(84,oP)] ⟨ih,ja,uP,pL,jb,ox,tE,vV,trivial⟩ Tryz.func43 .no
theorem A0:FOk Tryz.prog 75 vQ:=fk [] trivial Tryz.func75 (.t (.two (.t (.loop [.s 5] .no)) .no))
theorem yR:FOk Tryz.prog 39 qV:=fk [(23,dE),(38,pH),(43,(na bP)),(75,vQ)] ⟨eD,uO,(tF bP),A0,trivial⟩ Tryz.func39 .no
theorem qb:FOk Tryz.prog 13 lJ:=fk [(23,dE),(37,uF),(38,pH),(39,qV)] ⟨eD,Cl,uO,yR,trivial⟩ Tryz.func13 (.t (.t (.two (.t (.loop [.s 9] .no)) .no))) (tr:=[(3,0,.raw),(37,0,.raw),(81,0,.raw),(94,0,.raw)])
theorem yS: ∀n,FOk Tryz.prog 140 (pI n)
 | 0=>eX (f:=pI 0) (enters_of Tryz.func140 (by kernel_rfl) rfl) rfl (fun d=>rfl)
 | n+1=>by
  have ih:=yS n
  exact fk [(80,mY),(140,(pI n))] ⟨pL,ih,trivial⟩ Tryz.func140 (.t (.t (.t (.two (.t (.two (.t (.at [.slot 15 .boo] .no)) .no)) .no))))
end R
namespace R
open Go.RowKit
open D
theorem A1:FOk Tryz.prog 115 vR:=fk [] trivial Tryz.func115 .no
theorem se:FOk Tryz.prog 116 oQ:=fk [(115,vR)] ⟨A1,trivial⟩ Tryz.func116 .no
theorem A2:FOk Tryz.prog 162 vS:=fk [] trivial Tryz.func162 .no
theorem wN: ∀n,FOk Tryz.prog 173 (nN n)
 | 0=>eX (f:=nN 0) (enters_of Tryz.func173 (by kernel_rfl) rfl) rfl (fun d=>rfl)
 | n+1=>by
  have ih:=wN n
  exact fk [(116,oQ),(162,vS),(173,(nN n))] ⟨se,A2,ih,trivial⟩ Tryz.func173 .no
theorem uQ: ∀n,FOk Tryz.prog 141 (mr n)
 | 0=>eX (f:=mr 0) (enters_of Tryz.func141 (by kernel_rfl) rfl) rfl (fun d=>rfl)
 | n+1=>by
  have ih:=uQ n
  exact fk [(80,mY),(116,oQ),(141,(mr n)),(173,(nN bP))] ⟨pL,se,ih,(wN bP),trivial⟩ Tryz.func141 (.t (.t (.t (.two (.t (.two (.t (.at [.slot 15 .boo] .no)) .no)) .no))))
theorem zW:FOk Tryz.prog 91 sI:=fk [(23,dE),(140,(pI bP)),(141,(mr bP))] ⟨eD,(yS bP),(uQ bP),trivial⟩ Tryz.func91 .no
theorem F9:FOk Tryz.prog 142 yE:=fk [] trivial Tryz.func142 (.t (.loop [.s 6,.par 4 [3] 3 y3] (.t (.two (.at [.par 4 [3] 3 y3] .no) .no))))
theorem wO: ∀n,FOk Tryz.prog 92 (nO n)
 | 0=>eX (f:=nO 0) (enters_of Tryz.func92 (by kernel_rfl) rfl) rfl (fun d=>rfl)
 | n+1=>by
  have ih:=wO n
  exact fk [(80,mY),(92,(nO n)),(142,yE)] ⟨pL,ih,F9,trivial⟩ Tryz.func92 (.t (.t (.t (.two (.t (.t (.t (.t (.t (.t (.two (.t (.t (.t (.t (.t (.two (.t (.at [.box 11 [.boo,(.num .i64),(.num .i64)]] .no)) (.two (.t (.at [.box 11 [.boo,(.num .i64),(.num .i64)]] .no)) .no))))))) .no))))))) .no))))
theorem uR:FOk Tryz.prog 50 nQ:=fk [(91,sI),(92,(nO bP))] ⟨zW,(wO bP),trivial⟩ Tryz.func50 (.t (.t (.t (.t (.two (.t (.loop [.s 6,.s 7] (.t (.two (.at [.s 6] .no) .no)))) .no)))))
theorem Ei:FOk Tryz.prog 93 wI:=fk [] trivial Tryz.func93 (.t (.t (.join [.s 7] .no (.two (.t (.loop [.s 7,.s 8] (.t (.join [.s 7] .no .no)))) (.t (.two (.t (.loop [.s 9,.s 10] (.t (.join [.s 9] .no .no)))) .no))))))
theorem yT:FOk Tryz.prog 94 tz:=fk [] trivial Tryz.func94 (.t (.two (.t (.loop [.s 5] .no)) .no))
theorem zX:FOk Tryz.prog 95 sJ:=fk [] trivial Tryz.func95 .no
theorem zY:FOk Tryz.prog 51 sK:=fk [(93,wI),(94,tz),(95,sJ)] ⟨Ei,yT,zX,trivial⟩ Tryz.func51 (.t (.t (.t (.two (.t (.loop [.slot 7 (.own 3 y3),.s 8,.box 6 [(.num .i64),(.own 4 y4),(.own 37 y37)]] (.t (.two (.t (.two (.t (.loop [.slot 7 (.own 3 y3),.slot 9 (.own 3 y3),.s 10] (.t (.two (.t (.t (.join [.slot 7 (.own 3 y3),.s 12] .no .no))) .no)))) .no)) .no)))) .no))))
theorem zZ:FOk Tryz.prog 143 sL:=fk [] trivial Tryz.func143 (.t (.t (.two (.t (.loop [.slot 1 (.own 3 y3),.s 2] .no)) .no)))
theorem Cm:FOk Tryz.prog 96 uG:=fk [(94,tz),(143,sL)] ⟨yT,zZ,trivial⟩ Tryz.func96 (.t (.t (.t (.t (.t (.two (.t (.loop [.slot 8 (.own 3 y3),.slot 9 (.own 3 y3),.s 10,.box 7 [(.num .i64),(.own 4 y4),(.own 37 y37)]] (.t (.two (.t (.two (.t (.loop [.slot 8 (.own 3 y3),.slot 9 (.own 3 y3),.slot 11 (.own 3 y3),.s 12] (.t (.two (.t (.t (.join [.slot 8 (.own 3 y3),.slot 9 (.own 3 y3),.s 14] .no .no))) .no)))) .no)) .no)))) .no))))))
theorem yU:FOk Tryz.prog 98 tC:=fk [] trivial Tryz.func98 (.t (.t (.two (.t (.loop [.row 3 4 y4,.s 4] (.t (.two (.t (.loop [.row 3 4 y4,.s 5] (.t (.two (.t (.loop [.row 3 4 y4,.s 6] (.t (.join [.row 3 4 y4] .no .no)))) .no)))) .no)))) .no)))
theorem JC:FOk Tryz.prog 144 AM:=fk [] trivial Tryz.func144 (.t (.t (.two (.t (.loop [.slot 7 (.own 3 y3),.s 8] (.t (.join [.slot 7 (.own 3 y3)] .no .no)))) .no)))
end R
namespace R
open Go.RowKit
open D
theorem MZ:FOk Tryz.prog 145 Eb:=fk [] trivial Tryz.func145 (.t (.two (.t (.loop [.s 5] .no)) .no))
theorem Aa:FOk Tryz.prog 97 sM:=fk [(98,tC),(144,AM),(145,Eb)] ⟨yU,JC,MZ,trivial⟩ Tryz.func97 (.t (.t (.t (.two (.t (.loop [.slot 4 (.own 3 y3),.s 5] (.t (.two (.t (.two (.t (.at [.s 6] .no)) (.two (.t (.at [.s 6] .no)) .no))) .no)))) (.two (.t (.loop [.slot 4 (.own 3 y3),.s 7] (.t (.two (.t (.t (.two (.t (.loop [.slot 8 (.own 37 y37),.slot 9 (.own 3 y3),.s 10] (.t (.two (.at [.slot 8 (.own 37 y37),.slot 9 (.own 3 y3)] (.t (.t (.t (.two (.t (.loop [.s 12,.s 13] (.t (.two (.at [.s 12] .no) .no)))) (.two (.t (.at [.slot 8 (.own 37 y37),.s 12,.gone 11] .no)) .no)))))) .no)))) .no))) .no)))) .no)))))
theorem yV:FOk Tryz.prog 52 qW:=fk [(96,uG),(97,sM),(98,tC)] ⟨Cm,Aa,yU,trivial⟩ Tryz.func52 .no
theorem yW:FOk Tryz.prog 25 qX:=fk [(50,nQ),(51,sK),(52,qW)] ⟨uR,zY,yV,trivial⟩ Tryz.func25 .no
theorem Gc:FOk Tryz.prog 100 yF:=fk [(24,iO)] ⟨jx,trivial⟩ Tryz.func100 (.t (.t (.t (.two (.t (.loop [.s 4] (.t (.two (.t (.t (.loop [.s 5] .no))) .no)))) .no))))
theorem lZ:FOk Tryz.prog 54 iY:=fk [(100,yF)] ⟨Gc,trivial⟩ Tryz.func54 .no
theorem Cn:FOk Tryz.prog 146 uH:=fk [] trivial Tryz.func146 .no
theorem Ge:FOk Tryz.prog 147 yG:=fk [] trivial Tryz.func147 (.t (.t (.two (.loop [.s 1,.slot 5 (.own 3 y3)] .no) .no)))
theorem Gf:FOk Tryz.prog 148 yH:=fk [] trivial Tryz.func148 .no
theorem JD:FOk Tryz.prog 149 AN:=fk [] trivial Tryz.func149 (.t (.two (.t (.loop [.s 5] .no)) .no))
theorem Co:FOk Tryz.prog 99 uI:=fk [(146,uH),(147,yG),(148,yH),(149,AN)] ⟨Cn,Ge,Gf,JD,trivial⟩ Tryz.func99 (.t (.t (.two (.t (.loop [.slot 12 (.own 175 Wa),.s 13] (.t (.two (.t (.t (.two (.two (.at [.slot 57 .boo] .no) .no) (.t (.loop [.slot 12 (.own 175 Wa),.s 16] (.t (.join [.slot 12 (.own 175 Wa)] .no .no))))))) .no)))) .no)))
theorem yX:FOk Tryz.prog 53 qY:=fk [(54,iY),(99,uI)] ⟨lZ,Co,trivial⟩ Tryz.func53 .no
theorem su:FOk Tryz.prog 26 lS:=fk [(53,qY),(54,iY)] ⟨yX,lZ,trivial⟩ Tryz.func26 .no
theorem w7:FOk Tryz.prog 6 pZ:=fk [(13,lJ),(23,dE),(24,iO),(25,qX),(26,lS)] ⟨qb,eD,jx,yW,su,trivial⟩ Tryz.func6 .no
theorem eV:FOk Tryz.prog 29 ej:=fk [] trivial Tryz.func29 .no
theorem lz:FOk Tryz.prog 86 jM:=fk [(29,ej)] ⟨eV,trivial⟩ Tryz.func86 .no
theorem JE:FOk Tryz.prog 45 AO:=fk [(86,jM)] ⟨lz,trivial⟩ Tryz.func45 (.t (.two (.t (.loop [.s 7] .no)) .no))
end R
namespace R
open Go.RowKit
open D
theorem JF:FOk Tryz.prog 46 AP:=fk [(29,ej)] ⟨eV,trivial⟩ Tryz.func46 .no
theorem pM:FOk Tryz.prog 19 mu:=fk [(45,AO),(46,AP)] ⟨JE,JF,trivial⟩ Tryz.func19 (.t (.t (.t (.t (.two (.t (.loop [.slot 5 (.own 4 y4),.s 20,.box 4 [(.own 3 y3),(.own 81 y81)]] (.t (.t (.joinX [.slot 5 (.own 4 y4),.box 4 [(.own 3 y3),(.own 81 y81)]] (.t (.t (.t (.t (.join [.box 10 [(.num .i64),(.num .i64),(.num .i64),(.num .i64)]] .no .no))))) .no))))) .no)))))
theorem Gg:FOk Tryz.prog 120 yI:=fk [(29,ej),(86,jM)] ⟨eV,lz,trivial⟩ Tryz.func120 (.t (.two (.t (.t (.t (.t (.t (.join [.slot 37 .boo] .no .no)))))) .no))
theorem lQ:FOk Tryz.prog 121 bp:=D6 (f:=bp) (eX (f:=⟨bp.ps,bp.rs,bp.m,none⟩) (enters_of Tryz.func121 (by kernel_rfl) rfl) rfl (fun d=>rfl)) (HP (V:=⟨tt,[],[(5,.raw)],8,[]⟩) QO trivial mixed Tryz.func121 rfl rfl (enters_of Tryz.func121 (by kernel_rfl) rfl) (bI rfl) .no (fun E bn xs=>by cases bn <;> kernel_rfl))
theorem oX:FOk Tryz.prog 68 mD:=fk [(120,yI),(121,bp)] ⟨Gg,lQ,trivial⟩ Tryz.func68 (.t (.t (.two (.t (.loop [.slot 3 (.own 104 Zm),.s 13] (.t (.t (.two (.t (.t (.two (.t (.at [.s 6] (.two (.t (.at [.slot 19 .boo] .no)) (.t (.two (.t (.at [.slot 22 .boo] .no)) .no))))) .no))) .no))))) .no))) (tr:=[(157,104,y94)])
theorem JG:FOk Tryz.prog 56 AQ:=fk [(68,mD)] ⟨oX,trivial⟩ Tryz.func56 .no (tr:=[(157,104,y94)])
theorem iu:FOk Tryz.prog 28 fP:=fk [(56,AQ)] ⟨JG,trivial⟩ Tryz.func28 .no
theorem JH:FOk Tryz.prog 133 AR:=fk [(29,ej)] ⟨eV,trivial⟩ Tryz.func133 .no
theorem lR:FOk Tryz.prog 87 jv:=fk [(29,ej),(133,AR)] ⟨eV,JH,trivial⟩ Tryz.func87 (.t (.t (.two (.t (.loop [.s 14] .no)) (.two (.t (.loop [.s 25] .no)) .no))))
theorem jc:FOk Tryz.prog 134 fB:=fk [] trivial Tryz.func134 (.t (.t (.t (.two (.t (.loop [.slot 3 (.own 84 y84),.s 4] .no)) .no))))
theorem M4:FOk Tryz.prog 181 Ec:=fk [] trivial Tryz.func181 .no
theorem QP:FOk Tryz.prog 169 HS:=fk [(181,Ec)] ⟨M4,trivial⟩ Tryz.func169 (.t (.t (.two (.t (.loop [.s 13,.row 3 198 Zp] .no)) .no)))
theorem Gh:FOk Tryz.prog 170 yJ:=fk [(29,ej),(86,jM),(87,jv)] ⟨eV,lz,lR,trivial⟩ Tryz.func170 .no
theorem kh (a b:Int) (W:World):Calls Tryz.prog 195 #[.int .i64 a,.int .i64 b] W fun e w'=>e= .returned (.int .i64 (cmpI a b))/\w'=W:=by
 unfold cmpI
 by_cases h:a<b
 ·go_enter Tryz.func195,Tryz.ntmps195
  go_wp2
  go_ret
  simp[h]
 ·by_cases k:b<a
  ·go_enter Tryz.func195,Tryz.ntmps195
   go_wp2
   go_ret
   simp[h,k]
  ·go_enter Tryz.func195,Tryz.ntmps195
   go_wp2
   go_ret
   simp[h,k]
theorem kj (x y:Int×Int) (W:World):Calls Tryz.prog 183 #[.agg #[.int .i64 x.1,.int .i64 x.2],.agg #[.int .i64 y.1,.int .i64 y.2]] W fun e w'=>e= .returned (.int .i64 (Jy x y))/\ ∃q os',w'=Go.Sort.grow (W.drewN q) os':=by
 unfold Jy
 have hcon:=kh
 generalize cmpI=cf at hcon⊢
 by_cases h:x.1=y.1
 ·rw[if_pos h]
  go_enter Tryz.func183,Tryz.ntmps183
  go_wp2_with (go_at_call 195;refine (hcon _ _ _).mono ?_;rintro e w' ⟨rfl,rfl⟩)
  go_ret
  exact ⟨rfl,0,_,by rw[Go.Sort.alloc_eq_grow,Go.Sort.alloc_eq_grow,Go.Sort.grow_grow];rfl⟩
 ·rw[if_neg h]
  go_enter Tryz.func183,Tryz.ntmps183
  go_wp2_with (go_at_call 195;refine (hcon _ _ _).mono ?_;rintro e w' ⟨rfl,rfl⟩)
  go_ret
  exact ⟨rfl,0,_,by rw[Go.Sort.alloc_eq_grow,Go.Sort.alloc_eq_grow,Go.Sort.grow_grow];rfl⟩
theorem kI:FOk Tryz.prog 182 fQ:=MU zU (by intro w;kernel_rfl) (by intro w;kernel_rfl) QK QL (enters_of Tryz.func183 (by kernel_rfl) rfl) (fun _ _ _ _ _ _ _ _ x y=>kj x y _) (enters_of Tryz.func182 (by kernel_rfl) rfl) 84
theorem yY:FOk Tryz.prog 195 qZ:=fk [] trivial Tryz.func195 .no
theorem qc:FOk Tryz.prog 183 lK:=fk [(195,qZ)] ⟨yY,trivial⟩ Tryz.func183 .no
theorem lC:FOk Tryz.prog 184 fZ:=fk [] trivial Tryz.func184 (.t (.t (.two (.t (.loop [.s 3] (.t (.two (.t (.two (.t (.two (.t (.loop [.s 3,.s 5,.row 0 84 y84] (.t (.two (.at [.s 3,.row 0 84 y84] .no) .no)))) .no)) .no)) .no)))) .no))) (an:=[(28,.raw),(56,.raw),(59,.raw)])
end R
namespace R
open Go.RowKit
open D
theorem tG:FOk Tryz.prog 171 pJ:=fk [(182,fQ),(183,lK),(184,fZ)] ⟨kI,qc,lC,trivial⟩ Tryz.func171 .no
theorem uS:FOk Tryz.prog 135 nR:=fk [(86,jM),(87,jv),(169,HS),(170,yJ),(171,pJ)] ⟨lz,lR,QP,Gh,tG,trivial⟩ Tryz.func135 (.t (.t (.t (.two (.t (.loop [.slot 5 (.own 84 y84),.s 22] (.t (.t (.two (.at [.slot 5 (.own 84 y84)] (.t (.two (.t (.loop [.slot 5 (.own 84 y84),.s 29] (.t (.t (.two (.at [.slot 5 (.own 84 y84)] .no) .no))))) .no))) .no))))) .no))))
theorem jd:FOk Tryz.prog 136 fC:=fk [(171,pJ)] ⟨tG,trivial⟩ Tryz.func136 (.t (.t (.two (.t (.loop [.slot 5 (.own 84 y84),.s 14] (.t (.t (.two (.t (.t (.loop [.slot 5 (.own 84 y84),.s 20] (.t (.t (.join [.slot 5 (.own 84 y84)] .no .no)))))) .no))))) .no)))
theorem oy:FOk Tryz.prog 137 kW:=fk [(171,pJ)] ⟨tG,trivial⟩ Tryz.func137 .no
theorem wP:FOk Tryz.prog 172 q7:=fk [(29,ej),(183,lK)] ⟨eV,qc,trivial⟩ Tryz.func172 (.t (.two (.t (.loop [.s 7] .no)) .no))
theorem tH:FOk Tryz.prog 138 nc:=fk [(29,ej),(134,fB),(136,fC),(137,kW),(172,q7)] ⟨eV,jc,jd,oy,wP,trivial⟩ Tryz.func138 (.t (.t (.t (.loop [.slot 5 (.own 84 y84)] .no))))
theorem vW:FOk Tryz.prog 139 oR:=fk [(29,ej),(134,fB),(136,fC),(137,kW),(172,q7)] ⟨eV,jc,jd,oy,wP,trivial⟩ Tryz.func139 (.t (.t (.t (.t (.two (.t (.loop [.slot 9 (.own 84 y84),.slot 10 (.own 84 y84),.s 11] (.t (.two (.join [.slot 9 (.own 84 y84)] .no .no) .no)))) .no)))))
theorem oY: ∀n,FOk Tryz.prog 88 (iP n)
 | 0=>eX (f:=iP 0) (enters_of Tryz.func88 (by kernel_rfl) rfl) rfl (fun d=>rfl)
 | n+1=>by
  have ih:=oY n
  exact fk [(88,(iP n)),(134,fB),(135,nR),(136,fC),(137,kW),(138,nc),(139,oR)] ⟨ih,jc,uS,jd,oy,tH,vW,trivial⟩ Tryz.func88 .no (tr:=[(157,104,y94)])
theorem qd:FOk Tryz.prog 47 lL:=fk [(28,fP),(68,mD),(87,jv),(88,(iP bP))] ⟨iu,oX,lR,(oY bP),trivial⟩ Tryz.func47 .no (tr:=[(157,104,y94)])
theorem mw:FOk Tryz.prog 89 gP:=fk [] trivial Tryz.func89 (.t (.two (.t (.loop [.s 8] .no)) .no))
theorem fR:FOk Tryz.prog 48 di:=fk [(89,gP)] ⟨mw,trivial⟩ Tryz.func48 .no
theorem rj:FOk Tryz.prog 21 nf:=fk [(19,mu),(47,lL),(48,di)] ⟨pM,qd,fR,trivial⟩ Tryz.func21 .no
theorem wQ:FOk Tryz.prog 122 q8:=fk [] trivial Tryz.func122 .no
theorem yZ: ∀n,FOk Tryz.prog 69 (pK n)
 | 0=>eX (f:=pK 0) (enters_of Tryz.func69 (by kernel_rfl) rfl) rfl (fun d=>rfl)
 | n+1=>by
  have ih:=yZ n
  exact fk [(69,(pK n)),(122,q8)] ⟨ih,wQ,trivial⟩ Tryz.func69 (.t (.t (.t (.two (.t (.loop [.slot 3 (.own 37 y37),.s 16] (.t (.t (.two (.t (.t (.loop [.slot 3 (.own 37 y37),.s 6] .no))) .no))))) .no))))
theorem Cp:FOk Tryz.prog 166 xt:=fk [] trivial Tryz.func166 (.t (.t (.two (.t (.loop [.row 5 58 y58,.s 11] .no)) .no)))
theorem JI:FOk Tryz.prog 167 AS:=fk [(166,xt)] ⟨Cp,trivial⟩ Tryz.func167 (.t (.t (.two (.t (.loop [.s 14,.row 5 58 y58] (.t (.t (.two (.t (.t (.loop [.s 22,.row 5 58 y58] (.t (.t (.two (.at [.row 5 58 y58] (.t (.t (.t (.loop [.s 38,.row 5 58 y58] .no))))) .no)))))) .no))))) .no)))
theorem JJ:FOk Tryz.prog 168 AT:=fk [(166,xt)] ⟨Cp,trivial⟩ Tryz.func168 (.t (.t (.two (.t (.loop [.row 5 58 y58,.s 13] (.t (.t (.two (.t (.t (.loop [.row 5 58 y58,.s 21] .no))) .no))))) .no)))
end R
namespace R
open Go.RowKit
open D
theorem sR: ∀n,FOk Tryz.prog 123 (kX n)
 | 0=>eX (f:=kX 0) (enters_of Tryz.func123 (by kernel_rfl) rfl) rfl (fun d=>rfl)
 | n+1=>by
  have ih:=sR n
  exact fk [(123,(kX n)),(166,xt),(167,AS),(168,AT)] ⟨ih,Cp,JI,JJ,trivial⟩ Tryz.func123 (.t (.t (.t (.two (.t (.at [.slot 6 (.own 58 y58)] (.t (.t (.t (.two (.t (.loop [.s 31,.row 6 58 y58] .no)) (.t (.t (.t (.t (.t (.two (.t (.t (.t (.loop [.slot 6 (.own 58 y58),.s 102] .no)))) (.t (.two (.t (.t (.t (.loop [.slot 6 (.own 58 y58),.slot 11 (.own 58 y58),.s 12] (.t (.two (.two (.t (.at [.slot 6 (.own 58 y58)] .no)) .no) .no)))))) .no)))))))))))))) .no)))) (tr:=[(157,104,y94)])
theorem w8:FOk Tryz.prog 70 p7:=fk [(123,(kX bP))] ⟨(sR bP),trivial⟩ Tryz.func70 .no (tr:=[(157,104,y94)])
theorem Cq:FOk Tryz.prog 36 uJ:=fk [(28,fP),(29,ej),(68,mD),(69,(pK bP)),(70,p7)] ⟨iu,eV,oX,(yZ bP),w8,trivial⟩ Tryz.func36 (.t (.t (.t (.t (.two (.t (.loop [.slot 5 (.own 37 (.bag y37)),.s 7] (.t (.two (.t (.loop [.slot 5 (.own 37 (.bag y37)),.s 29] (.t (.t (.two (.at [.slot 5 (.own 37 (.bag y37))] .no) .no))))) .no)))) .no))))) (an:=[(18,.bag y37),(38,.bag y37)]) (tr:=[(3,0,.bool),(37,0,.bool),(94,0,.bool),(104,0,.bool)])
theorem qe:FOk Tryz.prog 12 lM:=fk [(19,mu),(21,nf),(28,fP),(36,uJ)] ⟨pM,rj,iu,Cq,trivial⟩ Tryz.func12 (.t (.t (.two (.t (.loop [.s 19] .no)) .no))) (tr:=[(3,0,.raw),(37,0,.raw),(81,0,.raw),(94,0,.raw)])
theorem sS: ∀n,FOk Tryz.prog 150 (kY n)
 | 0=>eX (f:=kY 0) (enters_of Tryz.func150 (by kernel_rfl) rfl) rfl (fun d=>rfl)
 | n+1=>by
  have ih:=sS n
  exact fk [(150,(kY n))] ⟨ih,trivial⟩ Tryz.func150 (.t (.t (.two (.t (.loop [.s 3,.s 11] (.t (.t (.two (.at [.s 3] .no) .no))))) .no))) (tr:=[(157,104,y94)])
theorem QQ:FOk Tryz.prog 185 HT:=fk [] trivial Tryz.func185 .no (tr:=[(157,104,y94)])
theorem wR: ∀n,FOk Tryz.prog 174 (nS n)
 | 0=>eX (f:=nS 0) (enters_of Tryz.func174 (by kernel_rfl) rfl) rfl (fun d=>rfl)
 | n+1=>by
  have ih:=wR n
  exact fk [(174,(nS n)),(185,HT)] ⟨ih,QQ,trivial⟩ Tryz.func174 .no (tr:=[(157,104,y94)])
theorem rk: ∀n,FOk Tryz.prog 151 (j7 n)
 | 0=>eX (f:=j7 0) (enters_of Tryz.func151 (by kernel_rfl) rfl) rfl (fun d=>rfl)
 | n+1=>by
  have ih:=rk n
  exact fk [(151,(j7 n)),(174,(nS bP))] ⟨ih,(wR bP),trivial⟩ Tryz.func151 (.t (.t (.t (.two (.t (.loop [.s 41,.box 3 [(.num .i64),(.num .i64),(.num .i64),(.num .i64),(.own 104 (.tree 157 104 y94))]] .no)) .no)))) (an:=[(52,t104)]) (tr:=[(157,104,y94)])
theorem qf: ∀n,FOk Tryz.prog 175 (jw n)
 | 0=>eX (f:=jw 0) (enters_of Tryz.func175 (by kernel_rfl) rfl) rfl (fun d=>rfl)
 | n+1=>by
  have ih:=qf n
  exact fk [(175,(jw n))] ⟨ih,trivial⟩ Tryz.func175 (.two (.t (.loop [.s 11,.box 1 [(.own 94 y94)]] .no)) .no) (tr:=[(157,104,y94)])
theorem Cr:FOk Tryz.prog 152 uK:=fk [(175,(jw bP))] ⟨(qf bP),trivial⟩ Tryz.func152 .no (tr:=[(157,104,y94)])
theorem Ab:FOk Tryz.prog 101 sN:=fk [(28,fP),(68,mD),(150,(kY bP)),(151,(j7 bP)),(152,uK)] ⟨iu,oX,(sS bP),(rk bP),Cr,trivial⟩ Tryz.func101 .no (tr:=[(157,104,y94)])
theorem sv:FOk Tryz.prog 153 lT:=fk [] trivial Tryz.func153 (.t (.loop [.s 12,.par 4 [3] 3 y3] (.t (.t (.two (.at [.par 4 [3] 3 y3] .no) .no)))))
theorem nj: ∀n,FOk Tryz.prog 102 (gj n)
 | 0=>eX (f:=gj 0) (enters_of Tryz.func102 (by kernel_rfl) rfl) rfl (fun d=>rfl)
 | n+1=>by
  have ih:=nj n
  exact fk [(102,(gj n)),(153,lT)] ⟨ih,sv,trivial⟩ Tryz.func102 (.t (.two (.t (.t (.t (.t (.t (.t (.t (.t (.two (.t (.t (.t (.two (.t (.at [.box 10 [(.num .i64),(.num .i64),.boo]] .no)) (.two (.t (.at [.box 10 [(.num .i64),(.num .i64),.boo]] .no)) .no))))) .no))))))))) .no)) (tr:=[(157,104,y94)])
theorem uT:FOk Tryz.prog 57 nT:=fk [(68,mD),(101,sN),(102,(gj bP))] ⟨oX,Ab,(nj bP),trivial⟩ Tryz.func57 (.t (.t (.t (.t (.two (.t (.loop [.s 6,.s 22] (.t (.t (.two (.at [.s 6] .no) .no))))) .no))))) (tr:=[(157,104,y94)])
theorem qg:FOk Tryz.prog 103 lN:=fk [] trivial Tryz.func103 (.t (.t (.t (.t (.two (.t (.loop [.slot 10 (.own 3 y3),.slot 11 (.map ⟨3,3,.int,.int⟩),.s 13,.box 12 [(.num .i64),(.own 4 y4),(.own 37 y37)]] (.t (.two (.t (.two (.t (.loop [.slot 10 (.own 3 y3),.slot 11 (.map ⟨3,3,.int,.int⟩),.slot 14 (.own 3 y3),.s 15] (.t (.join [.slot 10 (.own 3 y3),.slot 11 (.map ⟨3,3,.int,.int⟩),.slot 14 (.own 3 y3)] (.t (.t (.t (.join [.slot 10 (.own 3 y3),.slot 11 (.map ⟨3,3,.int,.int⟩),.s 18] .no .no)))) .no)))) .no)) .no)))) .no)))))
theorem rl:FOk Tryz.prog 104 lp:=fk [] trivial Tryz.func104 .no
theorem tI:FOk Tryz.prog 106 ng:=fk [] trivial Tryz.func106 (.t (.t (.join [.s 7] .no (.two (.t (.loop [.s 7,.s 21] (.t (.t (.join [.s 7] .no .no))))) (.t (.two (.t (.loop [.s 10,.s 39] (.t (.t (.join [.s 10] .no .no))))) .no))))))
end R
namespace R
open Go.RowKit
open D
theorem vX:FOk Tryz.prog 105 oS:=fk [(106,ng)] ⟨tI,trivial⟩ Tryz.func105 .no
theorem y6:FOk Tryz.prog 58 q9:=fk [(103,lN),(104,lp),(105,oS)] ⟨qg,rl,vX,trivial⟩ Tryz.func58 .no
theorem my:FOk Tryz.prog 186 bB:=D6 (f:=bB) (eX (f:=⟨bB.ps,bB.rs,bB.m,none⟩) (enters_of Tryz.func186 (by kernel_rfl) rfl) rfl (fun d=>rfl)) (HP (V:=⟨tt,[],[(5,.raw)],8,[]⟩) QO trivial mixed Tryz.func186 rfl rfl (enters_of Tryz.func186 (by kernel_rfl) rfl) (bI rfl) .no (fun E bn xs=>by cases bn <;> kernel_rfl))
theorem uU:FOk Tryz.prog 176 nU:=fk [(186,bB)] ⟨my,trivial⟩ Tryz.func176 (.t (.t (.two (.t (.loop [.slot 4 .boo,.row 3 4 y4] (.t (.t (.t (.loop [.slot 4 .boo,.s 16,.row 3 4 y4] (.t (.t (.two (.t (.t (.loop [.slot 4 .boo,.s 23,.row 3 4 y4] (.t (.t (.two (.at [.slot 4 .boo,.row 3 4 y4] .no) .no)))))) .no))))))))) .no)))
theorem jT:FOk Tryz.prog 187 eI:=fk [] trivial Tryz.func187 (.t (.two (.t (.loop [.s 8] .no)) .no))
theorem nt:FOk Tryz.prog 189 iW:=fk [] trivial Tryz.func189 (.t (.t (.two (.t (.loop [.s 13] .no)) .no)))
theorem qo:FOk Tryz.prog 188 ko:=fk [(189,iW)] ⟨nt,trivial⟩ Tryz.func188 .no
theorem sw:FOk Tryz.prog 177 lU:=fk [(187,eI),(188,ko)] ⟨jT,qo,trivial⟩ Tryz.func177 (.t (.t (.t (.two (.t (.loop [.slot 6 (.own 37 y37),.slot 7 (.own 3 y3),.s 18] (.t (.t (.join [.slot 6 (.own 37 y37),.slot 7 (.own 3 y3)] (.t (.t (.t (.two (.t (.loop [.s 36,.box 10 [(.own 3 y3)]] (.t (.t (.two (.t (.join [.s 12] .no .no)) .no))))) (.t (.join [.slot 6 (.own 37 y37),.s 13,.gone 10] .no .no)))))) .no))))) .no))))
theorem rp:FOk Tryz.prog 154 lq:=fk [(176,nU),(177,lU)] ⟨uU,sw,trivial⟩ Tryz.func154 (.t (.t (.two (.t (.loop [.slot 3 (.own 3 y3),.s 13] (.t (.t (.join [.slot 3 (.own 3 y3)] .no .no))))) (.t (.loop [.slot 3 (.own 3 y3),.s 6] .no)))))
theorem tJ:FOk Tryz.prog 196 nh:=fk [] trivial Tryz.func196 .no
theorem tK:FOk Tryz.prog 197 ni:=fk [] trivial Tryz.func197 .no
theorem vY:FOk Tryz.prog 190 oT:=fk [(196,nh),(197,ni)] ⟨tJ,tK,trivial⟩ Tryz.func190 .no
theorem nk:FOk Tryz.prog 178 ir:=fk [(190,oT)] ⟨vY,trivial⟩ Tryz.func178 (.t (.t (.t (.t (.t (.t (.two (.loop [.s 8,.row 7 3 (.int .i64)] .no) .no))))))) (an:=[(44,.bool)])
theorem Gi:FOk Tryz.prog 155 yK:=fk [(178,ir)] ⟨nk,trivial⟩ Tryz.func155 .no
theorem nv:FOk Tryz.prog 157 iX:=fk [] trivial Tryz.func157 (.t (.two (.t (.loop [.s 8] .no)) .no))
theorem oZ:FOk Tryz.prog 156 jN:=fk [(157,iX)] ⟨nv,trivial⟩ Tryz.func156 .no
theorem o6:FOk Tryz.prog 158 jO:=fk [] trivial Tryz.func158 .no
end R
namespace R
open Go.RowKit
open D
theorem nV:FOk Tryz.prog 160 j8:=fk [(86,jM)] ⟨lz,trivial⟩ Tryz.func160 .no
theorem o7:FOk Tryz.prog 159 jP:=fk [(160,j8)] ⟨nV,trivial⟩ Tryz.func159 .no
theorem qp:FOk Tryz.prog 107 kp:=fk [(103,lN),(154,lq),(155,yK),(156,jN),(158,jO),(159,jP)] ⟨qg,rp,Gi,oZ,o6,o7,trivial⟩ Tryz.func107 .no
theorem M5:FOk Tryz.prog 59 Ed:=fk [(107,kp)] ⟨qp,trivial⟩ Tryz.func59 .no
theorem y7:FOk Tryz.prog 30 re:=fk [(57,nT),(58,q9),(59,Ed)] ⟨uT,y6,M5,trivial⟩ Tryz.func30 .no
theorem l6:FOk Tryz.prog 61 iZ:=fk [(29,ej)] ⟨eV,trivial⟩ Tryz.func61 (.t (.t (.t (.two (.t (.loop [.s 32] (.t (.t (.two (.t (.two (.t (.loop [.s 38] .no)) .no)) .no))))) .no))))
theorem sx:FOk Tryz.prog 108 lV:=fk [(122,q8)] ⟨wQ,trivial⟩ Tryz.func108 (.t (.t (.two (.t (.loop [.slot 9 (.own 191 (.bag U4)),.slot 8 (.map ⟨141,4,.ii,.bool⟩)] (.t (.two (.t (.t (.t (.loop [.slot 9 (.own 191 (.bag U4)),.s 11,.slot 8 (.map ⟨141,4,.ii,.bool⟩)] (.t (.two (.at [.slot 9 (.own 191 (.bag U4)),.slot 8 (.map ⟨141,4,.ii,.bool⟩)] .no) .no)))))) .no)))) .no))) (an:=[(18,.bag U4),(23,.bool),(58,.bag U4)])
theorem Ac:FOk Tryz.prog 161 sO:=fk [(160,j8)] ⟨nV,trivial⟩ Tryz.func161 .no
theorem Cs (c d:List Value) (w:World):Calls Tryz.prog 109 #[.agg c.toArray,.agg d.toArray] w fun e w'=>e= .returned (.func (.func 161) #[] #[.pointer (some ⟨w.heap.size,0,none⟩),.pointer (some ⟨w.heap.size+1,0,none⟩)])/\w'=(w.alloc (.cells c.toArray 61)).alloc (.cells d.toArray 61):=by
 go_enter Tryz.func109,Tryz.ntmps109
 go_wp2
 go_ret
 exact ⟨rfl,rfl⟩
theorem Ej:FOk Tryz.prog 109 jQ:=UZ (f:=jQ) (eX (f:=⟨jQ.ps,jQ.rs,jQ.m,none⟩) (enters_of Tryz.func109 (by kernel_rfl) rfl) rfl (fun d=>rfl)) (Xf (enters_of Tryz.func109 (by kernel_rfl) rfl) Cs)
theorem rq:FOk Tryz.prog 111 lu:=fk [] trivial Tryz.func111 .no
theorem vZ:FOk Tryz.prog 110 oU:=fk [(111,lu)] ⟨rq,trivial⟩ Tryz.func110 .no
theorem y8:FOk Tryz.prog 60 rf:=fk [(61,iZ),(108,lV),(109,jQ),(110,oU),(161,sO)] ⟨l6,sx,Ej,vZ,Ac,trivial⟩ Tryz.func60 .no
theorem sy:FOk Tryz.prog 31 lW:=fk [(60,rf),(61,iZ)] ⟨y8,l6,trivial⟩ Tryz.func31 .no
theorem w9:FOk Tryz.prog 8 p8:=fk [(12,lM),(28,fP),(29,ej),(30,re),(31,lW)] ⟨qe,iu,eV,y7,sy,trivial⟩ Tryz.func8 .no
theorem U5:FOk Tryz.prog 10 MX:=fk [] trivial Tryz.func10 .no
theorem Ek:FOk Tryz.prog 33 yL:=U0 (T:=100) (Xg (V:=⟨tt,[],[],32,[]⟩) QO trivial mixed Tryz.func33 rfl rfl (enters_of Tryz.func33 (by kernel_rfl) rfl) (bI rfl) (.t (.t (.two (.t (.loop [.s 3,.s 4] .no)) .no))) (fun xs=>by kernel_rfl)) rfl
theorem JK:FOk Tryz.prog 119 AU:=fk [] trivial Tryz.func119 (.t (.t (.t (.two (.t (.at [.s 3,.cur 0] .no)) .no))))
end R
namespace R
open Go.RowKit
open D
theorem iw:FOk Tryz.prog 67 gk:=fk [(119,AU)] ⟨JK,trivial⟩ Tryz.func67 .no
theorem sf:FOk Tryz.prog 64 oV:=fk [(67,gk)] ⟨iw,trivial⟩ Tryz.func64 .no
theorem M6:FOk Tryz.prog 164 Ee:=fk [] trivial Tryz.func164 (.t (.t (.t (.two (.t (.loop [.slot 5 (.own 9 y9),.s 6,.s 7] (.t (.two (.at [.slot 5 (.own 9 y9),.s 6] .no) .no)))) .no))))
theorem qi:FOk Tryz.prog 191 lO:=fk [(129,nL)] ⟨ri,trivial⟩ Tryz.func191 .no
theorem Ct:FOk Tryz.prog 192 uL:=fk [] trivial Tryz.func192 (.t (.t (.t (.t (.two (.loop [.s 0,.slot 3 .str] (.t (.t (.two (.t (.at [.s 5] .no)) .no)))) .no)))))
theorem Gj:FOk Tryz.prog 179 yM:=fk [(191,lO),(192,uL)] ⟨qi,Ct,trivial⟩ Tryz.func179 .no
theorem za:FOk Tryz.prog 180 rh:=fk [(191,lO)] ⟨qi,trivial⟩ Tryz.func180 (.t (.two (.t (.loop [.s 4] .no)) .no))
theorem JL:FOk Tryz.prog 165 AW:=fk [(179,yM),(180,rh)] ⟨Gj,za,trivial⟩ Tryz.func165 (.t (.two (.t (.loop [.s 3] .no)) .no))
theorem Cu:FOk Tryz.prog 117 uM:=fk [(23,dE),(164,Ee),(165,AW)] ⟨eD,M6,JL,trivial⟩ Tryz.func117 (.t (.t (.t (.two (.t (.loop [.s 6,.box 4 [(.own 94 y94)]] .no)) .no))))
theorem JM:FOk Tryz.prog 118 AX:=fk [(67,gk)] ⟨iw,trivial⟩ Tryz.func118 .no
theorem zb:FOk Tryz.prog 66 tD:=fk [(117,uM),(118,AX)] ⟨Cu,JM,trivial⟩ Tryz.func66 .no
theorem mz:FOk Tryz.prog 35 j9:=fk [(67,gk)] ⟨iw,trivial⟩ Tryz.func35 .no
theorem Ad:FOk Tryz.prog 163 sP:=fk [] trivial Tryz.func163 .no
theorem A3: ∀n,FOk Tryz.prog 112 (rY n)
 | 0=>eX (f:=rY 0) (enters_of Tryz.func112 (by kernel_rfl) rfl) rfl (fun d=>rfl)
 | n+1=>by
  have ih:=A3 n
  exact fk [(35,j9),(64,oV),(67,gk),(112,(rY n)),(116,oQ),(162,vS),(163,sP)] ⟨mz,sf,iw,ih,se,A2,Ad,trivial⟩ Tryz.func112 (.t (.t (.two (.t (.two (.t (.at [.slot 20 .boo] .no)) (.t (.two (.t (.at [.slot 33 .boo] .no)) .no)))) .no)))
theorem A4:FOk Tryz.prog 63 vT:=fk [(64,oV),(66,tD),(67,gk),(112,(rY bP))] ⟨sf,zb,iw,(A3 bP),trivial⟩ Tryz.func63 .no
theorem El:FOk Tryz.prog 41 yN:=fk [(63,vT),(64,oV),(67,gk)] ⟨A4,sf,iw,trivial⟩ Tryz.func41 (.t (.t (.two (.t (.at [.cur 0,.box 3 [(.own 94 y94)]] (.t (.t (.t (.t (.t (.two (.two (.loop [.box 3 [(.own 94 y94)]] .no) .no) .no)))))))) .no))) (an:=[(12,.bool)])
theorem QR:FOk Tryz.prog 113 HU:=fk [] trivial Tryz.func113 .no
end R
namespace R
open Go.RowKit
open D
theorem Ae:FOk Tryz.prog 114 sQ:=fk [] trivial Tryz.func114 (.t (.t (.two (.t (.loop [.s 5] .no)) .no)))
theorem Cv:FOk Tryz.prog 65 uN:=fk [(113,HU),(114,sQ),(115,vR),(116,oQ)] ⟨QR,Ae,A1,se,trivial⟩ Tryz.func65 .no
theorem JN:FOk Tryz.prog 34 AY:=fk [(41,yN),(63,vT),(64,oV),(65,uN),(66,tD)] ⟨El,A4,sf,Cv,zb,trivial⟩ Tryz.func34 (.t (.t (.t (.two (.t (.at [.cur 0,.box 4 [(.own 94 y94)]] .no)) .no))))
theorem sA:FOk Tryz.prog 11 lX:=fk [(33,yL),(34,AY),(35,j9)] ⟨Ek,JN,mz,trivial⟩ Tryz.func11 .no
theorem Em:FOk Tryz.prog 14 wJ:=fk [] trivial Tryz.func14 (.t (.t (.two (.t (.loop [.s 5] .no)) .no)))
theorem Gk:FOk Tryz.prog 76 yO:=fk [(35,j9),(67,gk)] ⟨mz,iw,trivial⟩ Tryz.func76 (.t (.t (.two (.t (.loop [.s 4,.cur 0,.box 3 [(.own 3 (.int .i64)),(.own 81 y81)]] .no)) (.t (.two (.t (.loop [.s 5,.s 6,.cur 0,.box 3 [(.own 3 (.int .i64)),(.own 81 y81)]] .no)) .no)))))
theorem M7:FOk Tryz.prog 40 Ef:=fk [(35,j9),(67,gk),(76,yO)] ⟨mz,iw,Gk,trivial⟩ Tryz.func40 (.t (.t (.two (.t (.at [.cur 0,.box 3 [(.own 3 y3),(.own 81 y81)]] .no)) .no)))
theorem sB:FOk Tryz.prog 15 lY:=fk [(33,yL),(40,Ef),(41,yN)] ⟨Ek,M7,El,trivial⟩ Tryz.func15 .no
theorem M8:FOk Tryz.prog 16 Eg:=fk [] trivial Tryz.func16 (.t (.t (.two (.t (.loop [.slot 5 (.own 5 y5),.s 6] .no)) .no)))
theorem xa:FOk Tryz.prog 17 p9:=fk [(23,dE),(42,ju),(43,(na bP))] ⟨eD,lP,(tF bP),trivial⟩ Tryz.func17 .no
theorem v7:FOk Tryz.prog 44 oW:=fk [(75,vQ),(85,oO)] ⟨A0,sd,trivial⟩ Tryz.func44 (.t (.t (.two (.t (.loop [.slot 5 (.own 84 y84),.s 6] (.t (.join [.slot 5 (.own 84 y84)] .no .no)))) .no)))
theorem QS:FOk Tryz.prog 18 HV:=fk [(44,oW)] ⟨v7,trivial⟩ Tryz.func18 .no
theorem xb:FOk Tryz.prog 20 qa:=fk [(47,lL),(48,di)] ⟨qd,fR,trivial⟩ Tryz.func20 .no
theorem v8:FOk Tryz.prog 4 vU:=fk [(6,pZ),(8,p8),(10,MX),(11,lX),(12,lM),(13,lJ),(14,wJ),(15,lY),(16,Eg),(17,p9),(18,HV),(19,mu),(20,qa),(21,nf)] ⟨w7,w9,U5,sA,qe,qb,Em,sB,M8,xa,QS,pM,xb,rj,trivial⟩ Tryz.func4 .no (tr:=[(3,0,.raw),(5,0,.raw),(81,0,.raw),(84,0,.raw),(94,0,.raw)])
end R
namespace D
open Go.RowKit
theorem wc (x0:List Int) (r:Bool) (hm:iN x0=some r) {I:Hp} {w0:World} (v0_0:Value) (r0_0:(aw 5 rU8).rd I [v0_0] x0) (hL:Lay Tryz.prog I):Con Tryz.prog 4 #[v0_0] I w0 [] (fun v=>v= .bool r) (fun _=>[]):=fun w C hs =>
 ((R.v8).con rfl w0 I undef [v0_0] (x0,()) r hL ⟨_,_,rfl,⟨[v0_0],rfl,r0_0⟩,rfl⟩ hm w C hs).mono fun e w' ⟨v,he,_,hst⟩=>by
  obtain ⟨h1,h2⟩:=R.ud (h1:=fun _=>rfl) (show St I w0 w' (Ch.own R.Ty.bool.rep [v] r::C) from hst)
  exact ⟨v,he,(List.cons.inj h1).1,h2⟩
end D
namespace D
open Go.RowKit
def I64 (n:Int):Prop:= -9223372036854775808<=n/\n<=9223372036854775807
class Data (α:Type) where
 lim:α->Prop
 sm:α->Prop
instance:Data Int:=⟨I64,fun _=>True⟩
instance:Data Bool:=⟨fun _=>True,fun _=>True⟩
instance:Data ByteArray:=⟨fun s=>s.size<=9223372036854775807,fun s=>s.size<=1048576⟩
instance {α β:Type} [Data α] [Data β] :Data (α×β):=⟨fun x=>Data.lim x.1/\Data.lim x.2,fun x=>Data.sm x.1/\Data.sm x.2⟩
instance {α:Type} [Data α] :Data (List α):=⟨fun xs=>xs.length<=9223372036854775807/\ ∀x,x∈xs->Data.lim x,fun xs=>xs.length<=1048576/\ ∀x,x∈xs->Data.sm x⟩
structure Opens (P:Program) (t:TypeId) {α:Type} [Data α] (R:Rep α):Prop where
 out: ∀ {H:Type} (enc:TypeId×Value->H) (w:World) (fuel:Nat) (cs:List Value) (x:DataW H×List MemPlace),DataW.trod enc P w 0 (fun _=>true) true fuel t cs=some x-> ∃a:α,R.rd (hp w) cs a/\Data.lim a
theorem QT {P:Program} {t:TypeId} (h:P.underlying t=some (.int .u8)):Opens P t rU8:=by
 constructor
 intro H enc w fuel cs x hx
 obtain ⟨n,rfl,-,hw⟩:=DataW.trod_int h hx
 refine ⟨n,rfl,show I64 n from ?_⟩
 simp[Lit.wf,IntKind.min,IntKind.max,IntKind.signed,IntKind.bits] at hw
 unfold I64
 omega
theorem Gn {P:Program} {t e:TypeId} {α:Type} [Data α] {R:Rep α} {E:TypeId} (h:P.underlying t=some (.slice e)) (hc:P.cellsOf e=R.size) (h0:0<R.size) (he:Opens P e R):Opens P t (aw E R):=by
 constructor
 intro H enc w fuel cs x hx
 rcases Go.Deep.open_slice h hx with ⟨rfl,-⟩ | ⟨a,len,cap,m,n,D,Pl,rfl,-,hl,hm,hmm,-,hel⟩
 ·exact ⟨[],⟨none,0,rfl,by simp,.inl rfl⟩,Nat.zero_le _,fun x hx=>by cases hx⟩
 have hlm:m=cap:=by simpa using hmm
 subst hlm
 rw[hc] at hel
 by_cases hz:len=0
 ·subst hz
  exact ⟨[],⟨some a,m,rfl,by simp,.inl rfl⟩,Nat.zero_le _,fun x hx=>by cases hx⟩
 ·have hone: ∀i,i<len-> ∃c:List Value,∃y:α,c.length=R.size/\(∀j,j<R.size->w.cell? ((a.add (i*R.size)).add j)=c[j]?)/\R.rd (hp w) c y/\Data.lim y:=by
   intro i hi
   obtain ⟨c,h1,h2⟩:=hel i (by omega)
   obtain ⟨-,h3,h4⟩:=World.cells?_some h1
   obtain ⟨y,hy⟩:=he.out enc w _ _ _ h2
   exact ⟨c,y,h3,h4,hy⟩
  obtain ⟨c0,y0,hc0,hr0,-⟩:=hone 0 (by omega)
  have h00:=hr0 0 h0
  have hsome: ∃v,c0[0]? =some v:=⟨_,List.getElem?_eq_getElem (by omega)⟩
  obtain ⟨v,hv⟩:=hsome
  rw[hv] at h00
  have ha:(a.add (0*R.size)).add 0=a:=by simp[Addr.add]
  rw[ha] at h00
  obtain ⟨b,off,spot⟩:=a
  have hb: ∃ccs T fr,w.heap[b]? =some (.cells ccs T fr)/\spot=none:=by
   simp only[World.cell?] at h00
   split at h00
   ·rename_i ccs T fr heq
    cases spot with
    | none=>exact ⟨ccs,T,fr,heq,rfl⟩
    | some s=>simp at h00
   ·simp at h00
  obtain ⟨ccs,T,fr,hh,rfl⟩:=hb
  have hadd: ∀i j,(Addr.add ⟨b,off,none⟩ i).add j=⟨b,off+i+j,none⟩:=by
   intro i j
   by_cases h1:i=0 <;> by_cases h2:j=0 <;> simp[Addr.add,h1,h2,Nat.add_assoc]
  haveI:Inhabited α:=⟨y0⟩
  obtain ⟨X,hX⟩:=Go.Deep.choose_lt (α:=α) (n:=len) (p:=fun i y=> ∃c:List Value,c.length=R.size/\(∀j,j<R.size->ccs.toList[off+i*R.size+j]? =c[j]?)/\R.rd (hp w) c y/\Data.lim y) (fun i hi=>by
   obtain ⟨c,y,h1,h2,h3⟩:=hone i hi
   refine ⟨y,c,h1,fun j hj=>?_,h3⟩
   have:=h2 j hj
   rw[hadd] at this
   simp only[World.cell?,hh] at this
   simpa using this)
  have hlen:((List.range len).map X).length=len:=by simp
  have hel2: ∀i y,((List.range len).map X)[i]? =some y->i<len/\y=X i:=fun i y hy=>by
   have hi:i<len:=by have:=(List.getElem?_eq_some_iff.1 hy).1;omega
   exact ⟨hi,by simpa [hi] using hy.symm⟩
  refine ⟨(List.range len).map X,⟨some ⟨b,off,none⟩,m,by rw[hlen],by rw[hlen];unfold maxLen at hm;unfold lim;omega,.inr ⟨b,off,ccs,T,fr,rfl,hh,fun i y hy=>?_⟩⟩,by rw[hlen];unfold maxLen at hm;omega,fun y hy=>?_⟩
  ·obtain ⟨hi,rfl⟩:=hel2 i y hy
   obtain ⟨c,e1,e2,e3,-⟩:=hX i hi
   exact ⟨c,e1,e2,e3⟩
  ·obtain ⟨i,hi,he⟩:=List.mem_iff_getElem?.1 hy |>.imp fun i hi=>hel2 i y hi
   obtain ⟨-,-,-,-,e4⟩:=hX i hi
   rw[he];exact e4
theorem St.below {w0 w:World} {cs:List Ch} (h:St (hp w0) w0 w cs):Below w0.heap.size w0 w:=by
 obtain ⟨⟨h1,h2,h3,h4⟩,h5,-⟩:=h
 refine ⟨h1,h2,h3,h4,fun b hb=>?_⟩
 have e:w0.heap[b]? =some w0.heap[b]:=Array.getElem?_eq_getElem hb
 rw[e];exact h5 b _ e
end D
namespace D
open Go.RowKit
theorem cZ {n:Int} (h1: -9223372036854775808<=n) (h2:n<=9223372036854775807):i64.wrap n=n:=by
 simp only[IntKind.wrap,IntKind.bits,IntKind.signed,Bool.true_and]
 split <;> rename_i h <;> simp at h <;> omega
theorem af {i:Nat} (h:i<9223372036854775807):i64.wrap ((i:Int)+1)=((i+1:Nat):Int):=by
 rw[cZ (by omega) (by omega)];rfl
theorem aZ {α:Type} {xs:List α} {i:Nat} (h:i<xs.length):aK xs (i:Int)=some (xs[i]):=by
 unfold aK
 rw[if_pos (Int.natCast_nonneg _)]
 simp[h]
theorem fg {i n:Nat} (h:i<n):decide ((i:Int)<(n:Int))=true:=by simp[h]
theorem eN {n:Nat} :decide ((n:Int)<(n:Int))=false:=by simp
theorem o8 (k:Nat) (h:k<=9223372036854775807):k<aR:=by unfold aR;omega
theorem Xm {α:Type} {b n:Nat} {z:α} (h:n*b<=140737488355328):mkI b (n:Int) z=some (List.replicate n z):=by
 unfold mkI
 rw[if_pos ⟨Int.natCast_nonneg _,by simpa using h⟩];simp
theorem En {R S:Type} {f:S->Option (Out R S)} (inv:Nat->S) (N:Nat) (h: ∀i,i<N->f (inv i)=some (.nxt (inv (i+1)))): ∀(m i k:Nat),i+m=N->ax f (k+m) (inv i)=ax f k (inv N)
 | 0,i,k,e=>by rw[show i=N by omega];rfl
 | m+1,i,k,e=>by
  rw[<-Nat.add_assoc,ax,h i (by omega)]
  exact En inv N h m (i+1) k (by omega)
theorem M9 {R S:Type} {f:S->Option (Out R S)} (inv:Nat->S) (N:Nat) {s:S} (h: ∀i,i<N->f (inv i)=some (.nxt (inv (i+1)))) (he:f (inv N)=some (.brk s)) (hN:N<aR):ax f aR (inv 0)=some (.brk s):=by
 have e:aR=(aR - N - 1)+1+N:=by omega
 rw[e,En inv N h N 0 _ (by omega),ax,he]
theorem Z7 {α:Type} [Data α] {f:Int×Int->Option (Out Int (Int×Int))} (xs:List α)
  (hstep: ∀i (h:i<xs.length) l,0<=l->l<=1048576-> ∃r,f (l,(i:Int))=some (if r<0 then .ret (-1) else .nxt (r,((i+1:Nat):Int)))/\(r<0\/(0<=r/\r<=l/\Data.sm xs[i])))
  (hend: ∀l,f (l,(xs.length:Int))=some (.brk (l,(xs.length:Int)))): ∀(m i k:Nat) (l:Int),i+m=xs.length->m<k->0<=l->l<=1048576->
   ax f k (l,(i:Int))=some (.ret (-1))\/ ∃r,ax f k (l,(i:Int))=some (.brk (r,(xs.length:Int)))/\0<=r/\r<=l/\ ∀j (h:j<xs.length),i<=j->Data.sm xs[j]
 | 0,i,k,l,e,hk,h0,h1=>by
  obtain ⟨k,rfl⟩: ∃q,k=q+1:=⟨k - 1,by omega⟩
  obtain rfl:i=xs.length:=by omega
  exact .inr ⟨l,by rw[ax,hend],h0,Int.le_refl _,fun j hj hi=>by omega⟩
 | m+1,i,k,l,e,hk,h0,h1=>by
  obtain ⟨k,rfl⟩: ∃q,k=q+1:=⟨k - 1,by omega⟩
  obtain ⟨r,e1,e2⟩:=hstep i (by omega) l h0 h1
  rw[ax,e1]
  rcases e2 with e2 | ⟨e2,e3,e4⟩
  ·rw[if_pos e2];exact .inl rfl
  ·rw[if_neg (by omega)]
   rcases Z7 xs hstep hend m (i+1) k r (by omega) (by omega) e2 (by omega) with h | ⟨q,g1,g2,g3,g4⟩
   ·exact .inl h
   ·refine .inr ⟨q,g1,g2,by omega,fun j hj hi=>?_⟩
    by_cases hji:j=i
    ·subst hji;exact e4
    ·exact g4 j hj (by omega)
theorem szL {α:Type} [Data α] {f:Int×Int->Option (Out Int (Int×Int))} (xs:List α) {l:Int} (hN:xs.length<=9223372036854775807)
  (hstep: ∀i (h:i<xs.length) l,0<=l->l<=1048576-> ∃r,f (l,(i:Int))=some (if r<0 then .ret (-1) else .nxt (r,((i+1:Nat):Int)))/\(r<0\/(0<=r/\r<=l/\Data.sm xs[i])))
  (hend: ∀l,f (l,(xs.length:Int))=some (.brk (l,(xs.length:Int)))) (h0:0<=l) (h1:l<=1048576) :
  ∃r,(if decide (i64.wrap (l - (xs.length:Int))<0) then (some (-1)) else (aO (ax f aR (i64.wrap (l - (xs.length:Int)),0)) (fun r=>some r) (fun s4=>some s4.1)))=some r/\(r<0\/(0<=r/\r<=l/\Data.sm xs)):=by
 rw[cZ (by omega) (by omega)]
 by_cases h:l - (xs.length:Int)<0
 ·exact ⟨-1,by rw[if_pos (decide_eq_true h)],.inl (by decide)⟩
 ·rw[if_neg (by simpa using h)]
  rcases Z7 xs hstep hend xs.length 0 aR (l - xs.length) (by omega) (o8 _ hN) (by omega) (by omega) with e | ⟨r,e,g1,g2,g3⟩
  ·exact ⟨-1,by rw[show ((0:Int))=((0:Nat):Int) from rfl,e];rfl,.inl (by decide)⟩
  ·refine ⟨r,by rw[show ((0:Int))=((0:Nat):Int) from rfl,e];rfl,.inr ⟨g1,by omega,by omega,fun x hx=>?_⟩⟩
   obtain ⟨j,hj,rfl⟩:=List.getElem_of_mem hx
   exact g3 j hj (Nat.zero_le _)
theorem Z8 {α:Type} [DecidableEq α] {f:Int->Option (Out Bool Int)} (xs ys:List α) (hl:xs.length=ys.length)
  (hstep: ∀i (h:i<xs.length) (h':i<ys.length),f (i:Int)=some (if xs[i] =ys[i] then .nxt ((i+1:Nat):Int) else .ret false)) (hend:f (xs.length:Int)=some (.brk (xs.length:Int))): ∀(m i k:Nat),i+m=xs.length->m<k->
   ax f k (i:Int)=some (if xs.drop i=ys.drop i then .brk (xs.length:Int) else .ret false)
 | 0,i,k,e,hk=>by
  obtain ⟨k,rfl⟩: ∃q,k=q+1:=⟨k - 1,by omega⟩
  obtain rfl:i=xs.length:=by omega
  rw[ax,hend,List.drop_of_length_le (ay _),List.drop_of_length_le (by omega),if_pos rfl]
 | m+1,i,k,e,hk=>by
  obtain ⟨k,rfl⟩: ∃q,k=q+1:=⟨k - 1,by omega⟩
  have hi:i<xs.length:=by omega
  have hi':i<ys.length:=by omega
  have d1:=List.drop_eq_getElem_cons hi
  have d2:=List.drop_eq_getElem_cons hi'
  rw[ax,hstep i hi hi',d1,d2]
  by_cases h:xs[i] =ys[i]
  ·rw[if_pos h]
   simp only
   rw[Z8 xs ys hl hstep hend m (i+1) k (by omega) (by omega)]
   simp only[List.cons.injEq,h,true_and]
  ·rw[if_neg h]
   simp only[List.cons.injEq,h,false_and,if_false]
theorem eqL {α:Type} [DecidableEq α] {f:Int->Option (Out Bool Int)} (xs ys:List α) (hN:xs.length<=9223372036854775807)
  (hstep: ∀i (h:i<xs.length) (h':i<ys.length),f (i:Int)=some (if xs[i] =ys[i] then .nxt ((i+1:Nat):Int) else .ret false)) (hend:f (xs.length:Int)=some (.brk (xs.length:Int))) :
  (if (xs.length:Int) !=(ys.length:Int) then (some false) else (aO (ax f aR 0) (fun r=>some r) (fun s4=>some true)))=some (decide (xs=ys)):=by
 by_cases hl:xs.length=ys.length
 ·rw[if_neg (by rw[hl];simp),show ((0:Int))=((0:Nat):Int) from rfl,Z8 xs ys hl hstep hend xs.length 0 aR (by omega) (o8 _ hN)]
  by_cases h:xs=ys
  ·subst h;simp[aO]
  ·simp[aO,h]
 ·have:xs≠ys:=fun e=>hl (by rw[e])
  rw[if_pos (by simp;omega)];simp[this]
theorem Xn {f:Int->Option (Out Int Int)} (xs ys:List Int)
  (hstep: ∀i (h:i<xs.length) (h':i<ys.length),f (i:Int)=some (if xs[i] < ys[i] then .ret (-1) else if xs[i] > ys[i] then .ret 1 else .nxt ((i+1:Nat):Int))) (hend: ∀i,xs.length<=i\/ys.length<=i->f (i:Int)=some (.brk (i:Int))): ∀(m i k:Nat),i+m=xs.length->m<k->
   (∃r,ax f k (i:Int)=some (.ret r)/\r≠0/\xs≠ys)\/ ∃s,ax f k (i:Int)=some (.brk s)/\(xs.length=ys.length->xs.drop i=ys.drop i)
 | 0,i,k,e,hk=>by
  obtain ⟨k,rfl⟩: ∃q,k=q+1:=⟨k - 1,by omega⟩
  exact .inr ⟨_,by rw[ax,hend i (.inl (by omega))],fun h=>by rw[List.drop_of_length_le (by omega),List.drop_of_length_le (by omega)]⟩
 | m+1,i,k,e,hk=>by
  obtain ⟨k,rfl⟩: ∃q,k=q+1:=⟨k - 1,by omega⟩
  have hi:i<xs.length:=by omega
  by_cases hi':i<ys.length
  ·have hne: ∀h:xs[i] ≠ys[i],xs≠ys:=fun h e=>h (by subst e;rfl)
   rw[ax,hstep i hi hi']
   by_cases h1:xs[i] < ys[i]
   ·rw[if_pos h1];exact .inl ⟨-1,rfl,by decide,hne (by omega)⟩
   ·rw[if_neg h1]
    by_cases h2:xs[i] > ys[i]
    ·rw[if_pos h2];exact .inl ⟨1,rfl,by decide,hne (by omega)⟩
    ·rw[if_neg h2]
     rcases Xn xs ys hstep hend m (i+1) k (by omega) (by omega) with h | ⟨s,g1,g2⟩
     ·exact .inl h
     ·refine .inr ⟨s,g1,fun hl=>?_⟩
      have h3:xs[i] =ys[i]:=by omega
      rw[List.drop_eq_getElem_cons hi,List.drop_eq_getElem_cons hi',g2 hl,h3]
  ·exact .inr ⟨_,by rw[ax,hend i (.inr (by omega))],fun h=>by omega⟩
instance:LawfulBEq ByteArray where
 eq_of_beq {a b} h:=ByteArray.ext (eq_of_beq (show (a.data==b.data)=true from h))
 rfl {a}:=beq_self_eq_true a.data
theorem jB {α β:Type} (p:α×β):(p.1,p.2)=p:=rfl
theorem ze {α:Type} [Data α] {xs:List α} (h:Data.sm xs):xs.length<=1048576/\ ∀x,x∈xs->Data.sm x:=h
end D
namespace D
open Go.RowKit
theorem cj {R S:Type} {f:S->Option (Out R S)} (Inv:Nat->S->Prop) (Q:Out R S->Prop) (N:Nat)
  (h: ∀i s,i<=N->Inv i s->(i<N/\ ∃s',f s=some (.nxt s')/\Inv (i+1) s')\/ ∃o,f s=some o/\(∀s',o≠ .nxt s')/\Q o) {s:S} (h0:Inv 0 s) (hN:N<aR): ∃o,ax f aR s=some o/\Q o:=by
 have key: ∀(k i:Nat) (s:S),i<=N->N<i+k->Inv i s-> ∃o,ax f k s=some o/\Q o:=by
  intro k
  induction k with
  | zero=>intro i s h1 h2;omega
  | succ k ih =>
   intro i s h1 h2 hI
   rcases h i s h1 hI with ⟨hi,s',e,hI'⟩ | ⟨o,e,hn,hq⟩
   ·obtain ⟨o,e',hq⟩:=ih (i+1) s' (by omega) (by omega) hI'
    exact ⟨o,by rw[ax,e];exact e',hq⟩
   ·refine ⟨o,?_,hq⟩
    rw[ax,e]
    cases o with
    | nxt s'=>exact absurd rfl (hn s')
    | brk s'=>rfl
    | ret r=>rfl
 exact key aR 0 s (by omega) (by omega) h0
theorem a7 {R S:Type} {f:S->Option (Out R S)} (Inv:Nat->S->Prop) (N:Nat) (h: ∀i s,i<N->Inv i s-> ∃s',f s=some (.nxt s')/\Inv (i+1) s') (he: ∀s,Inv N s->f s=some (.brk s)) {s:S} (h0:Inv 0 s) (hN:N<aR): ∃s',ax f aR s=some (.brk s')/\Inv N s':=by
 obtain ⟨o,e,s',rfl,h⟩:=cj (f:=f) Inv (fun o=> ∃s',o= .brk s'/\Inv N s') N (fun i s hi hI=>by
  by_cases h1:i<N
  ·exact .inl ⟨h1,h i s h1 hI⟩
  ·obtain rfl:i=N:=by omega
   exact .inr ⟨_,he s hI,(fun s' e=>by cases e),s,rfl,hI⟩) h0 hN
 exact ⟨s',e,h⟩
theorem aP {R S:Type} {f:S->Option (Out R S)} (st:Nat->S) (N:Nat) (h: ∀i,i<N->f (st i)=some (.nxt (st (i+1)))) (he:f (st N)=some (.brk (st N))) (hN:N<aR):ax f aR (st 0)=some (.brk (st N)):=M9 st N h he hN
theorem fW {k:Nat} (h:k<=9223372036854775807):k<aR:=o8 k h
theorem lD {i:Nat} (h:i<=9223372036854775807):i64.wrap ((i:Int) - 1)=(i:Int) - 1:=cZ (by omega) (by omega)
theorem aJ {α:Type} {b:Nat} {xs ys:List α} (h:(xs.length+ys.length)*b<=140737488355328):cP b xs ys=some (xs++ys):=by unfold cP;rw[if_pos h]
theorem U6 {i n:Nat} :decide ((i:Int)<(n:Int))=decide (i<n):=by simp
theorem bM {R S T:Type} {x:Option (Out R S)} {r:R} {kr:R->Option T} {k:S->Option T} (h:x=some (.ret r)):aO x kr k=kr r:=by rw[h];rfl
theorem ai {R S T:Type} {x:Option (Out R S)} {s:S} {kr:R->Option T} {k:S->Option T} (h:x=some (.brk s)):aO x kr k=k s:=by rw[h];rfl
def nth {α:Type} [Inhabited α] (xs:List α) (i:Int):α:=xs.getD i.toNat default
section
variable {α:Type} [Inhabited α] {xs ys:List α}
theorem aG {i:Int} (h0:0<=i) (h1:i<xs.length):aK xs i=some (nth xs i):=by
 unfold aK nth
 rw[if_pos h0]
 have:i.toNat<xs.length:=by omega
 simp[List.getD_eq_getElem?_getD,this]
theorem br {i:Nat} (h:i<xs.length):nth xs (i:Int)=xs[i]:=by simp[nth,List.getD_eq_getElem?_getD,h]
theorem cO {i:Int} (h0:0<=i) (h1:i<xs.length):nth xs i∈xs:=by
 have:i.toNat<xs.length:=by omega
 have e:nth xs i=xs[i.toNat]:=by simp[nth,List.getD_eq_getElem?_getD,this]
 rw[e];exact List.getElem_mem this
theorem fS {i:Int} (h0:0<=i) (h1:i<xs.length):nth (xs++ys) i=nth xs i:=by
 have:i.toNat<xs.length:=by omega
 simp[nth,List.getD_eq_getElem?_getD,List.getElem?_append_left this]
theorem U7 {β:Type} [Inhabited β] {f:α->β} {i:Int} (h0:0<=i) (h1:i<xs.length):nth (xs.map f) i=f (nth xs i):=by
 have:i.toNat<xs.length:=by omega
 simp[nth,List.getD_eq_getElem?_getD,this]
theorem zf {x:α} (h:x∈xs): ∃i:Nat,i<xs.length/\nth xs (i:Int)=x:=by
 obtain ⟨i,hi,rfl⟩:=List.getElem_of_mem h
 exact ⟨i,hi,br hi⟩
theorem rr {i:Int} {x:α} (h0:0<=i) (h1:i<xs.length):nth (xs.set i.toNat x) i=x:=by
 have:i.toNat<xs.length:=by omega
 simp[nth,List.getD_eq_getElem?_getD,this]
theorem A5 {i j:Int} {x:α} (h0:0<=i) (hj:0<=j) (h:i≠j):nth (xs.set i.toNat x) j=nth xs j:=by
 have:i.toNat≠j.toNat:=by omega
 simp[nth,List.getD_eq_getElem?_getD,List.getElem?_set_ne this]
theorem U8 (h:xs.length=ys.length) (k: ∀i:Nat,i<xs.length->nth xs (i:Int)=nth ys (i:Int)):xs=ys:=by
 refine List.ext_getElem h fun i h1 h2=>?_
 have:=k i h1
 rwa [br h1,br h2] at this
end
section
variable {κ:Type} [DecidableEq κ]
def nbL (l:List κ):Option κ->List κ
 | none=>l
 | some x=>if x∈l then l else l++ [x]
def nbI (l:List κ):Option κ->Int
 | none=> -1
 | some x=>(l.idxOf x:Int)
def nbS (l:List κ) (os:List (Option κ)):List κ:=os.foldl nbL l
def nbR (l:List κ):List (Option κ)->List Int
 | [] =>[]
 | o::os=>nbI l o::nbR (nbL l o) os
theorem pN (l:List κ) (os:List (Option κ)) (o:Option κ):nbS l (os++ [o])=nbL (nbS l os) o:=by simp[nbS]
theorem si: ∀(l:List κ) (os:List (Option κ)) (o:Option κ),nbR l (os++ [o])=nbR l os++ [nbI (nbS l os) o]
 | l,[],o=>rfl
 | l,p::os,o=>by
  show nbI l p::nbR (nbL l p) (os++ [o])=nbI l p::nbR (nbL l p) os++ [nbI (nbS (nbL l p) os) o]
  rw[si (nbL l p) os o];rfl
theorem gJ: ∀(l:List κ) (os:List (Option κ)),(nbR l os).length=os.length
 | l,[] =>rfl
 | l,o::os=>by show (nbR (nbL l o) os).length+1=_;rw[gJ];rfl
theorem JO (l : List κ) (o : Option κ) : l <+: nbL l o := by
  cases o with
  | none => exact List.prefix_refl l
  | some x => unfold nbL; simp only; split
              · exact List.prefix_refl l
              · exact List.prefix_append l [x]
theorem iQ: ∀(l:List κ) (os:List (Option κ)),l <+:nbS l os
 | l,[] =>List.prefix_refl l
 | l,o::os=>(JO l o).trans (iQ (nbL l o) os)
theorem Na {l : List κ} {o : Option κ} (h : l.Nodup) : (nbL l o).Nodup := by
  cases o with
  | none => exact h
  | some x => unfold nbL; simp only; split
              · exact h
              · rename_i hx; exact List.nodup_append.2 ⟨h, by simp, by rintro a ha b hb rfl; simp at hb; exact hx (hb ▸ ha)⟩
theorem nm: ∀ {l:List κ} {os:List (Option κ)},l.Nodup->(nbS l os).Nodup
 | l,[],h=>h
 | l,o::os,h=>nm (l:=nbL l o) (os:=os) (Na h)
theorem Nb {l : List κ} {o : Option κ} {x : κ} : x ∈ nbL l o ↔ x ∈ l \/ o = some x := by
  cases o with
  | none => simp [nbL]
  | some y => unfold nbL; simp only; split
              · rename_i h; constructor
                · exact .inl
                · rintro (h' | h')
                  · exact h'
                  · simp at h'; exact h' ▸ h
              · simp; exact or_congr Iff.rfl eq_comm
theorem oz: ∀ {l:List κ} {os:List (Option κ)} {x:κ},x∈nbS l os↔x∈l\/some x∈os
 | l,[],x=>by simp[nbS]
 | l,o::os,x=>by
  show x∈nbS (nbL l o) os↔_
  rw[oz,Nb,List.mem_cons,or_assoc]
  exact or_congr Iff.rfl (or_congr eq_comm Iff.rfl)
theorem jC {l:List κ} {x:κ} (h:x∈l):nbL l (some x)=l:=by simp[nbL,h]
theorem jD {l:List κ} {x:κ} (h:x∉l):nbL l (some x)=l++ [x]:=by simp[nbL,h]
theorem o9 {l:List κ} {x:κ} (h:x∉l):l.idxOf x=l.length:=List.idxOf_eq_length h
def bfS (nx:κ->List (Option κ)) (first:κ):Nat->List κ
 | 0=>[first]
 | i+1=>match (bfS nx first i)[i]? with
  | some x=>nbS (bfS nx first i) (nx x)
  | none=>bfS nx first i
def bfR (nx:κ->List (Option κ)) (first:κ):Nat->List (List Int)
 | 0=>[]
 | i+1=>bfR nx first i++(match (bfS nx first i)[i]? with
  | some x=>[nbR (bfS nx first i) (nx x)]
  | none=>[])
variable {nx:κ->List (Option κ)} {first:κ}
theorem xu {i:Nat} (h:i<(bfS nx first i).length):bfS nx first (i+1)=nbS (bfS nx first i) (nx ((bfS nx first i)[i])):=by
 rw[bfS,List.getElem?_eq_getElem h]
theorem sj {i:Nat} (h:i<(bfS nx first i).length):bfR nx first (i+1)=bfR nx first i++ [nbR (bfS nx first i) (nx ((bfS nx first i)[i]))]:=by
 rw[bfR,List.getElem?_eq_getElem h]
theorem bs (i:Nat):bfS nx first i <+:bfS nx first (i+1):=by
 rw[bfS]
 split
 ·exact iQ _ _
 ·exact List.prefix_refl _
theorem kJ {i j:Nat} (h:i<=j):bfS nx first i <+:bfS nx first j:=by
 induction h with
 | refl=>exact List.prefix_refl _
 | step _ ih=>exact ih.trans (bs _)
theorem ke: ∀i,(bfS nx first i).Nodup
 | 0=>by simp[bfS]
 | i+1=>by
  rw[bfS]
  split
  ·exact nm (ke i)
  ·exact ke i
theorem iR {G:κ->Prop} (h0:G first) (h: ∀x,G x-> ∀y,some y∈nx x->G y): ∀i,∀x∈bfS nx first i,G x
 | 0=>by simp[bfS];exact h0
 | i+1=>by
  rw[bfS]
  split
  ·rename_i y hy
   intro x hx
   rcases oz.1 hx with hx | hx
   ·exact iR h0 h i x hx
   ·exact h y (iR h0 h i y (List.mem_of_getElem? hy)) x hx
  ·exact iR h0 h i
theorem ru (i:Nat):(bfS nx first i)[0]? =some first:=by
 obtain ⟨t,ht⟩:=kJ (nx:=nx) (first:=first) (Nat.zero_le i)
 rw[<-ht];rfl
theorem iS: ∀ {i:Nat},(∀j,j<i->j<(bfS nx first j).length)->(bfR nx first i).length=i
 | 0,_=>rfl
 | i+1,h=>by rw[sj (h i (by omega)),al,iS fun j hj=>h j (by omega)];rfl
def bfE (nx:κ->List (Option κ)) (first:κ) (N:Nat):Prop:=N=(bfS nx first N).length/\ ∀i,i<N->i<(bfS nx first i).length
theorem HW {B:Nat} (hB: ∀i,(bfS nx first i).length<=B): ∃N,N<=B/\bfE nx first N:=by
 have key: ∀m i,i+m=B->(∀j,j<i->j<(bfS nx first j).length)-> ∃N,N<=B/\bfE nx first N:=by
  intro m
  induction m with
  | zero =>
   intro i hi hj
   have h1:=hB i
   have h2:i<=(bfS nx first i).length:=by
    cases i with
    | zero=>omega
    | succ i =>
     have:=hj i (by omega)
     have hp:=(bs (nx:=nx) (first:=first) i).length_le
     omega
   exact ⟨i,by omega,by omega,hj⟩
  | succ m ih =>
   intro i hi hj
   by_cases h:i<(bfS nx first i).length
   ·exact ih (i+1) (by omega) fun j hj'=>by
     by_cases e:j=i
     ·subst e;exact h
     ·exact hj j (by omega)
   ·have h2:i<=(bfS nx first i).length:=by
     cases i with
     | zero=>omega
     | succ i =>
      have:=hj i (by omega)
      have hp:=(bs (nx:=nx) (first:=first) i).length_le
      omega
    exact ⟨i,by omega,by omega,hj⟩
 exact key B 0 (by omega) (by omega)
theorem HY {N M:Nat} (h:bfE nx first N) (k:bfE nx first M):N=M:=by
 rcases Nat.lt_trichotomy N M with e | e | e
 ·have:=k.2 N e;have:=h.1;omega
 ·exact e
 ·have:=h.2 M e;have:=k.1;omega
end
end D
namespace D
open Go.RowKit
abbrev AutT:=Int×(List Bool)×(List (List Int))
structure VA (a:AutT) (n:Nat):Prop where
 len:a.2.1.length=n
 start:0<=a.1/\a.1<n
 nlen:a.2.2.length=n
 row: ∀r∈a.2.2,r.length=9
 ent: ∀r∈a.2.2,∀t∈r,-1<=t/\t<n
def mv (a:AutT) (s:Int) (k:Nat):Int:=nth (nth a.2.2 s) k
theorem HZ (x l h:Int):cd x l h=some (decide (l<=x/\x<=h)):=by
 unfold cd
 by_cases c:l<=x
 ·simp[c]
 ·have: ¬l<=x/\True:=⟨c,trivial⟩
  simp[c]
theorem E6 (x l h:Int):bc x l h=some (decide (l<=x/\x<=h)):=by
 unfold bc
 by_cases c:l<=x
 ·simp[c]
 ·simp[c]
theorem scan {α R:Type} [Inhabited α] {f:Int->Option (Out R Int)} (xs:List α) (p:α->Prop) [DecidablePred p] (r:R) (hN:xs.length<=9223372036854775807)
  (h: ∀i:Nat,i<xs.length->f (i:Int)=some (if p (nth xs i) then .nxt ((i+1:Nat):Int) else .ret r)) (he:f (xs.length:Int)=some (.brk (xs.length:Int))) :
  (ax f aR 0=some (.brk (xs.length:Int))/\ ∀x∈xs,p x)\/(ax f aR 0=some (.ret r)/\ ¬ ∀x∈xs,p x):=by
 obtain ⟨o,e,hq⟩:=cj (f:=f) (fun i s=>s=(i:Int)/\ ∀j:Nat,j<i->p (nth xs j)) (fun o=>(o= .brk (xs.length:Int)/\ ∀x∈xs,p x)\/(o= .ret r/\ ¬ ∀x∈xs,p x)) xs.length (s:=0) (by
  rintro i s hi ⟨rfl,hp⟩
  by_cases hl:i<xs.length
  ·by_cases c:p (nth xs i)
   ·refine .inl ⟨hl,_,by rw[h i hl,if_pos c],rfl,fun j hj=>?_⟩
    by_cases e:j=i
    ·subst e;exact c
    ·exact hp j (by omega)
   ·refine .inr ⟨_,by rw[h i hl,if_neg c],(fun s' e=>by cases e),.inr ⟨rfl,fun hx=>c (hx _ (cO (by omega) (by omega)))⟩⟩
  ·obtain rfl:i=xs.length:=by omega
   refine .inr ⟨_,he,(fun s' e=>by cases e),.inl ⟨rfl,fun x hx=>?_⟩⟩
   obtain ⟨j,hj,rfl⟩:=zf hx
   exact hp j hj) ⟨rfl,by omega⟩ (fW hN)
 rcases hq with ⟨rfl,hq⟩ | ⟨rfl,hq⟩
 ·exact .inl ⟨e,hq⟩
 ·exact .inr ⟨e,hq⟩
section
variable {a:AutT} {n:Nat} (V:VA a n)
include V
theorem VA.pos:0<n:=by have:=V.start;omega
theorem VA.rowAt {s:Int} (h0:0<=s) (h1:s<n):(nth a.2.2 s).length=9:=V.row _ (cO h0 (by rw[V.nlen];exact h1))
theorem VA.mv {s:Int} {k:Nat} (h0:0<=s) (h1:s<n) (hk:k<9): -1<=mv a s k/\mv a s k<n:=
 V.ent _ (cO h0 (by rw[V.nlen];exact h1)) _ (cO (by omega) (by rw[V.rowAt h0 h1];omega))
theorem VA.get {s:Int} (h0:0<=s) (h1:s<n):aK a.2.2 s=some (nth a.2.2 s):=aG h0 (by rw[V.nlen];exact h1)
theorem VA.get2 {s:Int} {k:Nat} (h0:0<=s) (h1:s<n) (hk:k<9):aK (nth a.2.2 s) (k:Int)=some (D.mv a s k):=aG (by omega) (by rw[V.rowAt h0 h1];omega)
theorem VA.acc {s:Int} (h0:0<=s) (h1:s<n):aK a.2.1 s=some (nth a.2.1 s):=aG h0 (by rw[V.len];exact h1)
theorem Sw {s:Int} {k:Nat} (h0:0<=s) (h1:s<n) (hk:k<9):bG a s (k:Int)=some (mv a s k):=by
 unfold bG eY
 rw[if_neg (by simp;omega),E6];simp only[aa]
 rw[if_pos (by simp;omega),V.get h0 h1];simp only[aa]
 rw[V.get2 h0 h1 hk];rfl
end
theorem JP {a:AutT} {s:Int} {k:Int} (h0:s<0):bG a s k=some (-1):=by
 unfold bG;rw[if_pos (by simpa using h0)]
end D
namespace D
open Go.RowKit
abbrev Tok:=Int×Int×Int×Int
def ar (t:Tok):Int:=
 if t.1=1\/t.1=2 then (if t.2.1=0/\t.2.2.1=0/\t.2.2.2=0 then 0 else -1)
 else if t.1=3 then (if (0<=t.2.1/\t.2.1<=8)/\t.2.2.1=0/\t.2.2.2=0 then 0 else -1)
 else if t.1=4\/t.1=5 then (if t.2.1=0/\t.2.2.1=0/\t.2.2.2=0 then 2 else -1)
 else if t.1=6 then (if t.2.1=0/\t.2.2.1=0/\t.2.2.2=0 then 1 else -1)
 else if t.1=7 then (if t.2.1=0/\(0<=t.2.2.1/\t.2.2.1<=t.2.2.2)/\(1<=t.2.2.2/\t.2.2.2<=3) then 1 else -1)
 else -1
theorem QU (x:Int):jG x=some (decide (0<=x/\x<=8)):=by unfold jG;rw[HZ];rfl
theorem Cw (x:Int):eY x=some (decide (0<=x/\x<=8)):=by unfold eY;rw[E6];rfl
theorem Z9 (t:Tok):mM t=some (ar t):=by
 obtain ⟨k,l,lo,hi⟩:=t
 unfold mM ar
 simp only[QU,HZ,aa]
 by_cases h1:k=1
 ·subst h1;simp;grind
 by_cases h2:k=2
 ·subst h2;simp;grind
 by_cases h3:k=3
 ·subst h3;simp;grind
 by_cases h4:k=4
 ·subst h4;simp;grind
 by_cases h5:k=5
 ·subst h5;simp;grind
 by_cases h6:k=6
 ·subst h6;simp;grind
 by_cases h7:k=7
 ·subst h7;simp;grind
 simp[h1,h2,h3,h4,h5,h6,h7]
theorem Xo (t:Tok):pA t=some (decide (0<=ar t)):=by
 obtain ⟨k,l,lo,hi⟩:=t
 unfold pA ar
 simp only[Cw,E6,aa]
 by_cases h1:k=1
 ·subst h1;simp;grind
 by_cases h2:k=2
 ·subst h2;simp;grind
 by_cases h3:k=3
 ·subst h3;simp only[]
  by_cases a:0<=l/\l<=8 <;> by_cases b:lo=0 <;> by_cases c:hi=0 <;> simp[a,b,c]
 by_cases h4:k=4
 ·subst h4;simp;grind
 by_cases h5:k=5
 ·subst h5;simp;grind
 by_cases h6:k=6
 ·subst h6;simp;grind
 by_cases h7:k=7
 ·subst h7;simp only[]
  by_cases a:l=0 <;> by_cases b:0<=lo/\lo<=hi <;> by_cases c:1<=hi/\hi<=3 <;> simp[a,b,c]
 simp[h1,h2,h3,h4,h5,h6,h7]
theorem uV (t:Tok): -1<=ar t/\ar t<=2:=by
 unfold ar
 grind
theorem dY {t:Tok} (h:0<=ar t):(ar t=2/\(t.1=4\/t.1=5))\/(ar t=1/\(t.1=6\/t.1=7))\/(ar t=0/\(t.1=1\/t.1=2\/t.1=3)):=by
 unfold ar at h⊢
 grind
theorem qj {t:Tok} (h:0<=ar t) (k:t.1=7):(0<=t.2.2.1/\t.2.2.1<=t.2.2.2)/\(1<=t.2.2.2/\t.2.2.2<=3):=by
 unfold ar at h
 grind
mutual
def flat:Tr Tok->List Tok
 | .nil=>[]
 | .node t ks=>jE ks++ [t]
def jE:List (Tr Tok)->List Tok
 | [] =>[]
 | k::ks=>flat k++jE ks
end
inductive WT:Tr Tok->Prop
 | node {t:Tok} {ks:List (Tr Tok)} :ar t=(ks.length:Int)->(∀k,k∈ks->WT k)->WT (.node t ks)
theorem pa: ∀(a b:List (Tr Tok)),jE (a++b)=jE a++jE b
 | [],b=>rfl
 | k::a,b=>by rw[List.cons_append,jE,jE,pa a b,aD]
theorem lE (x:Tr Tok):jE [x] =flat x:=by rw[jE,jE,List.append_nil]
theorem Nc (x y:Tr Tok):jE [x,y] =flat x++flat y:=by rw[jE,lE]
theorem WT.cases {x:Tr Tok} (h:WT x):(∃t,x= .node t [] /\ar t=0)\/(∃t a,x= .node t [a] /\ar t=1/\WT a)\/ ∃t a b,x= .node t [a,b] /\ar t=2/\WT a/\WT b:=by
 cases h with
 | @node t ks h1 h2 =>
  have:=(uV t).2
  match ks,h1,h2 with
  | [],h1,h2=>exact .inl ⟨t,rfl,h1⟩
  | [a],h1,h2=>exact .inr (.inl ⟨t,a,rfl,h1,h2 a (by simp)⟩)
  | [a,b],h1,h2=>exact .inr (.inr ⟨t,a,b,rfl,h1,h2 a (by simp),h2 b (by simp)⟩)
  | _::_::_::_,h1,h2=>simp at h1;omega
theorem WT.ind {p:Tr Tok->Prop} (h0: ∀t,ar t=0->p (.node t [])) (h1: ∀t a,ar t=1->WT a->p a->p (.node t [a])) (h2: ∀t a b,ar t=2->WT a->WT b->p a->p b->p (.node t [a,b])) {x:Tr Tok} (h:WT x):p x:=by
 induction h with
 | @node t ks e k ih =>
  have:=(uV t).2
  match ks,e,k,ih with
  | [],e,k,ih=>exact h0 t e
  | [a],e,k,ih=>exact h1 t a e (k a (by simp)) (ih a (by simp))
  | [a,b],e,k,ih=>exact h2 t a b e (k a (by simp)) (k b (by simp)) (ih a (by simp)) (ih b (by simp))
  | _::_::_::_,e,_,_=>simp at e;omega
theorem rv (t:Tok):flat (.node t [])= [t]:=by rw[flat,jE];rfl
theorem pb (t:Tok) (a:Tr Tok):flat (.node t [a])=flat a++ [t]:=by rw[flat,lE]
theorem kl (t:Tok) (a b:Tr Tok):flat (.node t [a,b])=(flat a++flat b)++ [t]:=by rw[flat,Nc]
theorem WT.pos {x:Tr Tok} (h:WT x):1<=(flat x).length:=by
 cases h with
 | node h1 h2=>rw[flat];simp
def stp (s:List (Tr Tok)) (t:Tok):Option (List (Tr Tok)):=if ar t<0\/(s.length:Int)<ar t then none else some (s.take (s.length - (ar t).toNat)++ [.node t (s.drop (s.length - (ar t).toNat))])
def run:List (Tr Tok)->List Tok->Option (List (Tr Tok))
 | s,[] =>some s
 | s,t::l=>(stp s t).bind fun s'=>run s' l
theorem Cx: ∀(a:List Tok) {b:List Tok} {s:List (Tr Tok)},run s (a++b)=(run s a).bind fun s'=>run s' b
 | [],b,s=>rfl
 | t::a,b,s=>by
  rw[List.cons_append,run,run]
  cases stp s t with
  | none=>rfl
  | some s'=>exact Cx a
theorem uW {a:List Tok} {t:Tok} {s:List (Tr Tok)} :run s (a++ [t])=(run s a).bind fun s'=>stp s' t:=by
 rw[Cx]
 congr 1
 funext s'
 rw[run]
 cases stp s' t <;> rfl
theorem Sx: ∀ {l:List Tok} {s s':List (Tr Tok)},run s l=some s'->(∀k,k∈s->WT k)->(∀k,k∈s'->WT k)/\jE s'=jE s++l
 | [],s,s',h,hs=>by
  obtain rfl:=ae h
  exact ⟨hs,by simp⟩
 | t::l,s,s',h,hs=>by
  rw[run] at h
  unfold stp at h
  by_cases c:ar t<0\/(s.length:Int)<ar t
  ·rw[if_pos c] at h;cases h
  ·rw[if_neg c] at h
   have hlen:(s.drop (s.length - (ar t).toNat)).length=(ar t).toNat:=by rw[bC];omega
   obtain ⟨k1,k2⟩:=Sx (show run _ l=some s' from h) fun k hk=>by
    rcases aH hk with hk | hk
    ·exact hs k (List.mem_of_mem_take hk)
    ·obtain rfl:=ak hk
     exact .node (by rw[hlen];omega) fun k hk=>hs k (List.mem_of_mem_drop hk)
   refine ⟨k1,?_⟩
   rw[k2,pa,lE,flat,<-aD,<-pa,List.take_append_drop]
   simp
theorem H0 {x:Tr Tok} (h:WT x): ∀s,run s (flat x)=some (s++ [x]):=by
 refine WT.ind (p:=fun x=> ∀s,run s (flat x)=some (s++ [x])) ?_ ?_ ?_ h
 ·intro t e s
  rw[rv,run,stp,if_neg (by omega),e]
  simp[run]
 ·intro t a e _ ia s
  rw[pb,uW,ia]
  show stp (s++ [a]) t=_
  rw[stp,if_neg (by simp;omega),e]
  simp
 ·intro t a b e _ _ ia ib s
  rw[kl,uW,Cx,ia]
  show ((run (s++ [a]) (flat b)).bind fun s'=>stp s' t)=_
  rw[ib]
  show stp (s++ [a] ++ [b]) t=_
  rw[stp,if_neg (by simp;omega),e]
  have:(s++ [a] ++ [b]).length - (2:Int).toNat=s.length:=by simp
  rw[this]
  simp
def isX (e:List Tok):Bool:=match run [] e with
 | some [_] =>true
 | _=>false
theorem A6 {e:List Tok} (h:isX e=true): ∃x,run [] e=some [x] /\WT x/\flat x=e:=by
 unfold isX at h
 split at h
 ·rename_i x hx
  obtain ⟨k1,k2⟩:=Sx hx (fun k hk=>by cases hk)
  refine ⟨x,hx,k1 x (by simp),?_⟩
  rw[lE] at k2
  rw[k2];rfl
 ·cases h
theorem nW {x:Tr Tok} (h:WT x):isX (flat x)=true:=by unfold isX;rw[H0 h];rfl
theorem Nd {l:List Tok} : ∀ {s s':List (Tr Tok)},run s l=some s'->s'.length<=s.length+l.length:=by
 induction l with
 | nil=>intro s s' h;obtain rfl:=ae h;simp
 | cons t l ih =>
  intro s s' h
  rw[run] at h
  obtain ⟨s1,h1,h2⟩:=Option.bind_eq_some_iff.1 h
  have h3:=ih h2
  unfold stp at h1
  split at h1
  ·cases h1
  ·obtain rfl:=ae h1
   simp only[al,aF,aB,aA] at h3⊢
   omega
theorem uX {e:List Tok} {i:Nat} (h:i<e.length):e.take (i+1)=e.take i++ [nth e (i:Int)]:=by
 rw[List.take_succ_eq_append_getElem h,br h]
theorem xw {e:List Tok} {i:Nat} (h:i<e.length) {st:List (Tr Tok)} (h1:run [] (e.take i)=some st) (h2:stp st (nth e (i:Int))=none):run [] e=none:=by
 have:run [] (e.take (i+1))=none:=by rw[uX h,uW,h1];exact h2
 rw[<-List.take_append_drop (i+1) e,Cx,this];rfl
theorem H1 {e:List Tok} (he:e.length<=1048576):oF e=some (isX e):=by
 obtain ⟨o,eo,hq⟩:=cj (f:=px e) (fun i s=> ∃st,s=((st.length:Int),(i:Int))/\run [] (e.take i)=some st) (fun o=>(o= .ret false/\run [] e=none)\/ ∃st,o= .brk ((st.length:Int),(e.length:Int))/\run [] e=some st) e.length (s:=(0,0)) (by
  rintro i s hi ⟨st,rfl,hst⟩
  have hl:=Nd hst
  simp only[aA,aF] at hl
  unfold px
  simp only[jB]
  by_cases c:i<e.length
  ·rw[if_pos (by simp;omega),aG (by omega) (by omega)];simp only[aa]
   rw[Z9];simp only[aa]
   have hr:=uV (nth e (i:Int))
   by_cases c1:ar (nth e (i:Int))<0
   ·refine .inr ⟨_,by rw[if_pos (by simpa using c1)],(fun s' e=>by cases e),.inl ⟨rfl,xw c hst ?_⟩⟩
    rw[stp,if_pos (.inl c1)]
   ·rw[if_neg (by simpa using c1)]
    by_cases c2:ar (nth e (i:Int))>(st.length:Int)
    ·refine .inr ⟨_,by rw[if_pos (by simpa using c2)],(fun s' e=>by cases e),.inl ⟨rfl,xw c hst ?_⟩⟩
     rw[stp,if_pos (.inr c2)]
    ·rw[if_neg (by simpa using c2)]
     refine .inl ⟨c,_,rfl,st.take (st.length - (ar (nth e (i:Int))).toNat)++ [.node (nth e (i:Int)) (st.drop (st.length - (ar (nth e (i:Int))).toNat))],?_,?_⟩
     ·rw[cZ (n:=(st.length:Int) - ar (nth e (i:Int))) (by omega) (by omega),cZ (by omega) (by omega),af (by omega)]
      congr 1
      simp only[al,aF,aB,aA]
      omega
     ·rw[uX c,uW,hst]
      show stp st _=_
      rw[stp,if_neg (by omega)]
  ·obtain rfl:i=e.length:=by omega
   rw[List.take_of_length_le (by omega)] at hst
   exact .inr ⟨_,by rw[if_neg (by simp)],(fun s' e=>by cases e),.inr ⟨st,rfl,hst⟩⟩) ⟨[],rfl,rfl⟩ (fW (by omega))
 unfold oF
 rcases hq with ⟨rfl,h⟩ | ⟨st,rfl,h⟩
 ·rw[bM eo];unfold isX;rw[h]
 ·rw[ai eo];unfold isX;rw[h]
  match st with
  | [] =>rfl
  | [_] =>rfl
  | _::_::_=>simp;omega
theorem Zt {t:Tok} (h:0<=ar t):(Option.bind ((if t.1==4 then (some (t.1==4)) else (some (t.1==5)):Option Bool)) (fun s3=>if s3 then (some 2) else (Option.bind ((if t.1==6 then (some (t.1==6)) else (some (t.1==7)):Option Bool)) (fun s4=>if s4 then (some 1) else (some 0)))):Option Int)=some (ar t):=by
 rcases dY h with ⟨e,k | k⟩ | ⟨e,k | k⟩ | ⟨e,k | k | k⟩ <;> rw[e] <;> simp[k]
theorem U9 (t:Tok): ∃n:Int,(Option.bind ((if t.1==4 then (some (t.1==4)) else (some (t.1==5)):Option Bool)) (fun s3=>if s3 then (some 2) else (Option.bind ((if t.1==6 then (some (t.1==6)) else (some (t.1==7)):Option Bool)) (fun s4=>if s4 then (some 1) else (some 0)))):Option Int)=some n:=by
 by_cases h4:t.1=4
 ·exact ⟨2,by simp[h4]⟩
 by_cases h5:t.1=5
 ·exact ⟨2,by simp[h5]⟩
 by_cases h6:t.1=6
 ·exact ⟨1,by simp[h6]⟩
 by_cases h7:t.1=7
 ·exact ⟨1,by simp[h7]⟩
 exact ⟨0,by simp[h4,h5,h6,h7]⟩
def tL (e:List Tok):Tr Tok:=match run [] e with
 | some [x] =>x
 | _=>.nil
theorem pO {e:List Tok} (he:e.length<=1048576):jJ e=some (tL e):=by
 obtain ⟨o,eo,hq⟩:=cj (f:=pB e) (fun i s=> ∃st,s=(st,(i:Int))/\run [] (e.take i)=some st) (fun o=>(o= .ret Tr.nil/\run [] e=none)\/ ∃st,o= .brk (st,(e.length:Int))/\run [] e=some st) e.length (s:=([],0)) (by
  rintro i s hi ⟨st,rfl,hst⟩
  have hl:=Nd hst
  simp only[aA,aF] at hl
  unfold pB
  simp only[jB]
  by_cases c:i<e.length
  ·rw[if_pos (by simp;omega),aG (by omega) (by omega)];simp only[aa]
   have hr:=uV (nth e (i:Int))
   by_cases c1:ar (nth e (i:Int))<0
   ·obtain ⟨n,hn⟩:=U9 (nth e (i:Int))
    rw[hn];simp only[aa]
    rw[Xo];simp only[aa]
    refine .inr ⟨_,by rw[if_neg (by simp;omega)],(fun s' e=>by cases e),.inl ⟨rfl,xw c hst ?_⟩⟩
    rw[stp,if_pos (.inl c1)]
   ·rw[Zt (by omega)];simp only[aa]
    rw[Xo];simp only[aa]
    rw[if_pos (by simp;omega),cZ (n:=(st.length:Int) - ar (nth e (i:Int))) (by omega) (by omega)]
    by_cases c2:ar (nth e (i:Int))>(st.length:Int)
    ·refine .inr ⟨_,by rw[if_pos (by simp;omega)],(fun s' e=>by cases e),.inl ⟨rfl,xw c hst ?_⟩⟩
     rw[stp,if_pos (.inr c2)]
    ·rw[if_neg (by simp;omega),show∀p:Prop,∀ [Decidable p],p->chk p=some () from fun p _ hp=>by unfold chk;rw[if_pos hp]]
     ·simp only[aa]
      have e1:((st.length:Int) - ar (nth e (i:Int))).toNat=st.length - (ar (nth e (i:Int))).toNat:=by omega
      rw[e1,aJ (by simp;omega)];simp only[aa]
      rw[aJ (by simp;omega)];simp only[aa,List.nil_append,af (show i<9223372036854775807 by omega)]
      refine .inl ⟨c,_,rfl,_,rfl,?_⟩
      rw[uX c,uW,hst]
      show stp st _=_
      rw[stp,if_neg (by omega)]
     ·omega
  ·obtain rfl:i=e.length:=by omega
   rw[List.take_of_length_le (by omega)] at hst
   exact .inr ⟨_,by rw[if_neg (by simp)],(fun s' e=>by cases e),.inr ⟨st,rfl,hst⟩⟩) ⟨[],rfl,rfl⟩ (fW (by omega))
 unfold jJ
 rcases hq with ⟨rfl,h⟩ | ⟨st,rfl,h⟩
 ·rw[bM eo];unfold tL;rw[h]
 ·rw[ai eo];unfold tL;rw[h]
  match st with
  | [] =>rfl
  | [x] =>rfl
  | _::_::_ =>
   simp only
   rw[if_pos (by simp;omega)]
theorem fT {x:Tr Tok} (h:WT x):tL (flat x)=x:=by unfold tL;rw[H0 h];rfl
theorem QV {e:List Tok} (he:e.length<=1048576):rW e=some (isX e):=by
 unfold rW
 rw[pO he];simp only[aa]
 congr 1
 by_cases h:isX e=true
 ·rw[h]
  obtain ⟨x,h1,h2,h3⟩:=A6 h
  have:tL e=x:=by unfold tL;rw[h1]
  rw[this]
  cases h2 with
  | node _ _=>rfl
 ·have:tL e= .nil:=by
   unfold tL
   unfold isX at h
   split
   ·rename_i x hx;rw[hx] at h;exact absurd rfl h
   ·rfl
  rw[this,Bool.eq_false_iff.2 h];rfl
theorem dj {e:List Tok} (he:e.length<=1048576):bK e=some (decide (e.length<=24)&&isX e):=by
 unfold bK
 rw[H1 he]
 by_cases c:e.length<=24
 ·rw[if_pos (by simp;omega)];simp[c]
 ·rw[if_neg (by simp;omega)];simp[c]
theorem dO {e:List Tok} (he:e.length<=1048576):b8 e=some (decide (e.length<=24)&&isX e):=by
 unfold b8
 rw[QV he]
 by_cases c:e.length<=24
 ·rw[if_pos (by simp;omega)];simp[c]
 ·rw[if_neg (by simp;omega)];simp[c]
theorem dZ {p:Prop} [Decidable p] (h:p):chk p=some ():=by unfold chk;rw[if_pos h]
theorem Vc {A:List Tok} {x:Tr Tok} (hx:WT x) (hl:(A++flat x).length<=1000000):fl (A++flat x)=some (A.length:Int):=by
 obtain ⟨s',e,ks,q1,q2,q3⟩: ∃s',ax (kN (A++flat x)) aR (1,((A++flat x).length:Int))=some (.brk s')/\ ∃ks:List (Tr Tok),ks= [] /\s'.2=(A.length:Int)/\True:=by
  obtain ⟨o,eo,hq⟩:=cj (f:=kN (A++flat x)) (fun i s=> ∃ks:List (Tr Tok),(∀k,k∈ks->WT k)/\s=((ks.length:Int),(((A++jE ks).length:Nat):Int))/\i+(jE ks).length=(flat x).length/\(A++flat x).take (A++jE ks).length=A++jE ks) (fun o=> ∃s',o= .brk s'/\s'.2=(A.length:Int)) (flat x).length (s:=(1,((A++flat x).length:Int))) (by
   rintro i s hi ⟨ks,hw,rfl,hlen,htk⟩
   unfold kN
   simp only[jB]
   rcases List.eq_nil_or_concat ks with rfl | ⟨ks',y,rfl⟩
   ·refine .inr ⟨_,by rw[if_neg (by simp)],(fun s' e=>by cases e),_,rfl,?_⟩
    simp[jE]
   ·have hy:=hw y (by simp)
    cases hy with
    | @node t cs h1 h2 =>
     have hfl:jE (ks'++ [.node t cs])=jE (ks'++cs)++ [t]:=by rw[pa,lE,flat,pa,aD]
     rw[List.concat_eq_append,hfl] at hlen htk⊢
     simp only[al,aB,aA] at hlen htk hl⊢
     rw[if_pos (by simp <;> omega)]
     have hpos:i64.wrap (((A.length+((jE (ks'++cs)).length+1):Nat):Int) - 1)=((A.length+(jE (ks'++cs)).length:Nat):Int):=by
      rw[cZ (by omega) (by omega)];omega
     have hget:nth (A++flat x) ((A.length+(jE (ks'++cs)).length:Nat):Int)=t:=by
      have hlt:A.length+(jE (ks'++cs)).length<(A++flat x).length:=by rw[al];omega
      have e1:=congrArg (fun l:List Tok=>l[A.length+(jE (ks'++cs)).length]?) htk
      rw[List.getElem?_take_of_lt (by omega),List.getElem?_eq_getElem hlt,<-aD,List.getElem?_append_right (by rw[al];omega),al] at e1
      rw[br hlt]
      simpa using e1
     rw[hpos,aG (by omega) (by simp only[al];omega),hget];simp only[aa]
     rw[Z9,h1];simp only[aa]
     have hcl:(cs.length:Int)<=2:=by rw[<-h1];exact (uV t).2
     have hkl:ks'.length<=(jE (ks'++cs)).length+1000000:=by
      have: ∀l:List (Tr Tok),(∀k,k∈l->WT k)->l.length<=(jE l).length:=by
       intro l
       induction l with
       | nil=>intro _;simp
       | cons k l ih =>
        intro h
        have h1:=(h k (by simp)).pos
        have h2:=ih fun k hk=>h k (by simp[hk])
        rw[jE];simp only[aB,al];omega
      have:=this ks' fun k hk=>hw k (by simp[hk])
      rw[pa,al];omega
     refine .inl ⟨by omega,_,rfl,ks'++cs,fun k hk=>?_,?_,by omega,?_⟩
     ·rcases aH hk with hk | hk
      ·exact hw k (by simp[hk])
      ·exact h2 k hk
     ·rw[cZ (n:=((ks'.length+1:Nat):Int) - 1) (by omega) (by omega),cZ (by omega) (by omega)]
      congr 1
      (simp only[al]) <;> omega
     ·have e1:=congrArg (List.take (A++jE (ks'++cs)).length) htk
      rw[List.take_take,Nat.min_eq_left (by rw[al];omega),<-aD,List.take_left] at e1
      rw[al] at e1
      exact e1) ⟨[x],fun k hk=>by (obtain rfl:=ak hk;exact hx),by rw[lE];rfl,by rw[lE];omega,by rw[lE,List.take_length]⟩ (fW (by rw[al] at hl;omega))
  obtain ⟨s',rfl,h2⟩:=hq
  exact ⟨s',eo,[],rfl,h2,trivial⟩
 unfold fl
 rw[ai e,q2]
end D
namespace D
open Go.RowKit
instance trInh {α:Type} :Inhabited (Tr α):=⟨.nil⟩
def szX:Tr Tok->Int
 | .nil=>0
 | .node t ks=>min (szL t 1 ks) 100000
where szL (t:Tok) (acc:Int):List (Tr Tok)->Int
 | [] =>acc
 | k::ks=>szL t (acc+(if t.1=7 then (szX k+3)*t.2.2.2 else szX k)) ks
theorem lF {x:Tr Tok} (h:WT x):1<=szX x/\szX x<=100000:=by
 refine WT.ind (p:=fun x=>1<=szX x/\szX x<=100000) ?_ ?_ ?_ h
 ·intro t _
  show 1<=min (1:Int) 100000/\min (1:Int) 100000<=100000
  omega
 ·intro t a e _ ih
  show 1<=min ((1:Int)+(if t.1=7 then (szX a+3)*t.2.2.2 else szX a)) 100000/\min ((1:Int)+(if t.1=7 then (szX a+3)*t.2.2.2 else szX a)) 100000<=100000
  split
  ·rename_i k
   have hr:=qj (show 0<=ar t by omega) k
   have:0<=(szX a+3)*t.2.2.2:=Int.mul_nonneg (by omega) (by omega)
   omega
  ·omega
 ·intro t a b e _ _ iha ihb
  have k:t.1≠7:=by
   grind[dY,ar]
  show 1<=min ((1:Int)+(if t.1=7 then (szX a+3)*t.2.2.2 else szX a)+(if t.1=7 then (szX b+3)*t.2.2.2 else szX b)) 100000/\min ((1:Int)+(if t.1=7 then (szX a+3)*t.2.2.2 else szX a)+(if t.1=7 then (szX b+3)*t.2.2.2 else szX b)) 100000<=100000
  omega
theorem Eo {a h:Int} (h1:1<=a/\a<=100000) (h2:1<=h/\h<=3):i64.wrap ((i64.wrap (a+3))*h)=(a+3)*h:=by
 have k1:0<=(a+3)*h:=Int.mul_nonneg (by omega) (by omega)
 have k2:(a+3)*h<=100003*3:=Int.mul_le_mul (by omega) (by omega) (by omega) (by omega)
 grind[cZ]
theorem Nf {a h:Int} (h1:1<=a/\a<=100000) (h2:1<=h/\h<=3):0<=(a+3)*h/\(a+3)*h<=300009:=by
 have k1:0<=(a+3)*h:=Int.mul_nonneg (by omega) (by omega)
 have k2:(a+3)*h<=100003*3:=Int.mul_le_mul (by omega) (by omega) (by omega) (by omega)
 omega
theorem jo {t:Tok} {ks:List (Tr Tok)} :Tr.get (.node t ks)=some (t,ks):=rfl
theorem we {f:Tr Tok->Option Int} {t:Tok} {ks:List (Tr Tok)} {i:Nat} {acc:Int} (hi:i<ks.length) (hf:f (nth ks (i:Int))=some (szX (nth ks (i:Int)))) (hw:WT (nth ks (i:Int))) (ht:0<=ar t) (ha:0<=acc/\acc<=1000000) (hik:i<=1000000) :
  dg f (.node t ks) (t,ks) (acc,(i:Int))=some (.nxt (acc+(if t.1=7 then (szX (nth ks (i:Int))+3)*t.2.2.2 else szX (nth ks (i:Int))),((i+1:Nat):Int))):=by
 unfold dg
 simp only[jo]
 have hr:=lF hw
 rw[if_pos (by grind),aG (by omega) (by omega)];simp only[aa]
 by_cases k:t.1=7
 ·have h7:=qj ht k
  have hm:=Nf hr h7.2
  rw[if_pos (by grind),if_pos k,hf];simp only[aa]
  rw[Eo hr h7.2,cZ (by omega) (by omega),af (by omega)]
 ·rw[if_neg (by grind),if_neg k,hf];simp only[aa]
  rw[cZ (by omega) (by omega),af (by omega)]
theorem xx {α:Type} [Inhabited α] {a:α} {l:List α} :nth (a::l) ((0:Nat):Int)=a:=rfl
theorem Ng {α:Type} [Inhabited α] {a b:α} {l:List α} :nth (a::b::l) ((1:Nat):Int)=b:=rfl
theorem Vd {x:Tr Tok} (h:WT x): ∀n,(flat x).length<=n->b9 n x=some (szX x):=by
 refine WT.ind (p:=fun x=> ∀n,(flat x).length<=n->b9 n x=some (szX x)) ?_ ?_ ?_ h
 ·intro t e n hn
  match n,hn with
  | n+1,_ =>
   rfl
 ·intro t a e wa ih n hn
  rw[pb,al] at hn
  match n,hn with
  | n+1,hn =>
   rw[b9];simp[jo,aa]
   have hL:ax (dg (b9 n) (.node t [a]) (t,[a])) aR (1,0)=some (.brk (szX.szL t 1 [a],1)):=aP (f:=dg (b9 n) (.node t [a]) (t,[a])) (fun i=>(szX.szL t 1 ([a].take i),(i:Int))) 1 (fun i hi=>by
    obtain rfl:i=0:=by omega
    exact we (acc:=1) (i:=0) (by simp) (ih n (by grind)) wa (by omega) (by omega) (by omega)) (by rfl) (by unfold aR;omega)
   rw[ai hL]
   rfl
 ·intro t a b e wa wb iha ihb n hn
  rw[kl,al,al] at hn
  match n,hn with
  | n+1,hn =>
   have hra:=lF wa
   have k:t.1≠7:=by
    grind[dY,ar]
   rw[b9];simp[jo,aa]
   have hL:ax (dg (b9 n) (.node t [a,b]) (t,[a,b])) aR (1,0)=some (.brk (szX.szL t 1 [a,b],2)):=aP (f:=dg (b9 n) (.node t [a,b]) (t,[a,b])) (fun i=>(szX.szL t 1 ([a,b].take i),(i:Int))) 2 (fun i hi=>by
    have:i=0\/i=1:=by omega
    rcases this with rfl | rfl
    ·exact we (acc:=1) (i:=0) (by simp) (iha n (by grind)) wa (by omega) (by omega) (by omega)
    ·exact we (acc:=1+(if t.1=7 then (szX a+3)*t.2.2.2 else szX a)) (i:=1) (by simp) (ihb n (by grind)) wb (by omega) (by omega) (by omega)) (by rfl) (by unfold aR;omega)
   rw[ai hL]
   rfl
theorem eH {A:List Tok} {t:Tok} (h:A.length<=1000000):aK (A++ [t]) (i64.wrap (((A++ [t]).length:Int) - 1))=some t/\i64.wrap (((A++ [t]).length:Int) - 1)=(A.length:Int):=by
 have e:i64.wrap (((A++ [t]).length:Int) - 1)=(A.length:Int):=by
  rw[cZ (by omega) (by grind)]
  simp only[al,aB,aA];omega
 grind[aG,al,aB,aA,br]
theorem aaa {t:Tok} (h:ar t=2):(if t.1==4 then (some (t.1==4)) else (some (t.1==5)):Option Bool)=some true:=by
 grind[dY,ar]
theorem QW {t:Tok} (h:ar t=1\/ar t=0):(if t.1==4 then (some (t.1==4)) else (some (t.1==5)):Option Bool)=some false:=by
 rcases dY (show 0<=ar t by omega) with ⟨e,k⟩ | ⟨e,k | k⟩ | ⟨e,k | k | k⟩
 ·omega
 all_goals simp[k]
theorem Xp {t:Tok} (h:ar t=0):(t.1==6)=false/\(t.1==7)=false:=by
 grind[dY,ar]
theorem Ep {t:Tok} (h:ar t=1):((t.1==6)=true/\t.1=6)\/((t.1==6)=false/\(t.1==7)=true/\t.1=7):=by
 grind[dY,ar]
theorem pc {a b:Tr Tok} {t:Tok} (wb:WT b) (hl:((flat a++flat b)++ [t]).length<=1000000) :
  (((flat a++flat b)++ [t]).take ((((flat a++flat b).length:Nat):Int)).toNat)=flat a++flat b /\
  fl (flat a++flat b)=some (((flat a).length:Nat):Int) /\
  (((flat a++flat b)++ [t]).take ((((flat a).length:Nat):Int)).toNat)=flat a /\
  (flat a++flat b).drop ((((flat a).length:Nat):Int)).toNat=flat b:=by
 grind[Vc,al,aB,aA,Int.toNat_natCast,List.take_left,aD,List.drop_left]
theorem Xq {x:Tr Tok} (h:WT x): ∀n,(flat x).length<=n->(flat x).length<=1000000->eu n (flat x)=some (szX x):=by
 refine WT.ind (p:=fun x=> ∀n,(flat x).length<=n->(flat x).length<=1000000->eu n (flat x)=some (szX x)) ?_ ?_ ?_ h
 ·intro t e n hn hl
  rw[rv] at hn hl⊢
  match n,hn with
  | n+1,_ =>
   have hk:=Xp e
   rw[eu]
   have:=(eH (A:=[]) (t:=t) (by simp)).1
   rw[List.nil_append] at this
   rw[this];simp only[aa]
   rw[QW (.inr e)];simp[aa,hk.1,hk.2,Bool.false_eq_true,if_false]
   rfl
 ·intro t a e wa ih n hn hl
  rw[pb] at hn hl⊢
  simp[al,aB,aA] at hn hl
  match n,hn with
  | n+1,hn =>
   have hr:=lF wa
   rw[eu]
   have ⟨l1,l2⟩:=eH (A:=flat a) (t:=t) (by omega)
   rw[l1];simp only[aa]
   rw[QW (.inl e)];simp only[aa,Bool.false_eq_true,if_false]
   rw[l2,Int.toNat_natCast,List.take_left,dZ (by grind)];simp only[aa]
   rw[ih n (by omega) (by omega)];simp only[aa]
   rcases Ep e with ⟨k1,k2⟩ | ⟨k1,k2,k3⟩
   ·rw[if_pos k1,cZ (by omega) (by omega)]
    show some (min 100000 (szX a+1))=some (min ((1:Int)+(if t.1=7 then (szX a+3)*t.2.2.2 else szX a)) 100000)
    grind
   ·have h7:=qj (show 0<=ar t by omega) k3
    have hm:=Nf hr h7.2
    rw[if_neg (by grind),if_pos k2,Eo hr h7.2,cZ (by omega) (by omega)]
    show some (min 100000 ((szX a+3)*t.2.2.2+1))=some (min ((1:Int)+(if t.1=7 then (szX a+3)*t.2.2.2 else szX a)) 100000)
    grind
 ·intro t a b e wa wb iha ihb n hn hl
  rw[kl] at hn hl⊢
  have ⟨p1,p2,p3,p4⟩:=pc (a:=a) (t:=t) wb hl
  simp[al,aB,aA] at hn hl
  match n,hn with
  | n+1,hn =>
   have hra:=lF wa
   have hrb:=lF wb
   have k:t.1≠7:=by
    rcases dY (show 0<=ar t by omega) with ⟨_,k⟩ | ⟨k,_⟩ | ⟨k,_⟩ <;> omega
   rw[eu]
   have ⟨l1,l2⟩:=eH (A:=flat a++flat b) (t:=t) (by grind)
   rw[l1];simp only[aa]
   rw[aaa e];rw[l2,p1,p2,dZ (by grind)];simp only[aa]
   rw[dZ (by grind),p3,p4];rw[iha n (by omega) (by omega),dZ (by simp[al,aB,aA];omega)];rw[ihb n (by omega) (by omega)];simp only[aa]
   rw[cZ (n:=szX a+szX b) (by omega) (by omega),cZ (by omega) (by omega)]
   show some (min 100000 (szX a+szX b+1))=some (min ((1:Int)+(if t.1=7 then (szX a+3)*t.2.2.2 else szX a)+(if t.1=7 then (szX b+3)*t.2.2.2 else szX b)) 100000)
   grind
def JQ:Tr Tok:=.node (2,0,0,0) []
def A7 (x:Tr Tok):Nat->Int->Tr Tok
 | 0,_=>JQ
 | h+1,low=>if 0<low then .node (4,0,0,0) [x,A7 x h (max 0 (low - 1))] else .node (5,0,0,0) [.node (4,0,0,0) [x,A7 x h (max 0 (low - 1))],JQ]
mutual
def rz:Tr Tok->Tr Tok
 | .nil=>.nil
 | .node t ks=>if t.1=7 then A7 ((Xr ks).headD .nil) t.2.2.2.toNat t.2.2.1 else .node t (Xr ks)
def Xr:List (Tr Tok)->List (Tr Tok)
 | [] =>[]
 | k::ks=>rz k::Xr ks
end
theorem ar4:ar (4,0,0,0)=2:=by decide
theorem ar5:ar (5,0,0,0)=2:=by decide
theorem ar2:ar (2,0,0,0)=0:=by decide
theorem Nh:WT JQ:=.node ar2 fun k hk=>by cases hk
theorem rA:flat JQ= [(2,0,0,0)]:=rv _
theorem WT.two {t:Tok} {a b:Tr Tok} (h:ar t=2) (ha:WT a) (hb:WT b):WT (.node t [a,b]):=.node h fun k hk=>by
 grind
theorem WT.one {t:Tok} {a:Tr Tok} (h:ar t=1) (ha:WT a):WT (.node t [a]):=.node h fun k hk=>by
 grind
theorem Gp {x:Tr Tok} (hx:WT x): ∀(h:Nat) (low:Int),WT (A7 x h low)
 | 0,_=>Nh
 | h+1,low=>by
  rw[A7]
  split
  ·exact .two ar4 hx (Gp hx h _)
  ·exact .two ar5 (.two ar4 hx (Gp hx h _)) Nh
theorem Cy (x:Tr Tok): ∀(h:Nat) (low:Int),(flat (A7 x h low)).length<=((flat x).length+3)*h+1
 | 0,_=>by rw[A7,rA];simp
 | h+1,low=>by
  have ih:=Cy x h (max 0 (low - 1))
  grind[A7,kl,al,aB,aA,Nat.mul_succ,rA]
theorem Wb {t:Tok} {a:Tr Tok} :rz (.node t [a])=if t.1=7 then A7 (rz a) t.2.2.2.toNat t.2.2.1 else .node t [rz a]:=by rfl
theorem exp2 {t:Tok} {a b:Tr Tok} (h:t.1≠7):rz (.node t [a,b])= .node t [rz a,rz b]:=by simp_all[rz,if_neg,Xr]
theorem Wc {t:Tok} (h:t.1≠7):rz (.node t [])= .node t []:=by rw[rz,if_neg h,Xr]
theorem no7 {t:Tok} (h:ar t=2\/ar t=0):t.1≠7:=by
 grind[dY,ar]
theorem Ni {x:Tr Tok} (h:WT x):WT (rz x):=by
 refine WT.ind (p:=fun x=>WT (rz x)) ?_ ?_ ?_ h
 ·intro t e
  rw[Wc (no7 (.inr e))]
  exact .node e fun k hk=>by cases hk
 ·intro t a e _ ih
  rw[Wb]
  split
  ·exact Gp ih _ _
  ·exact .one e ih
 ·intro t a b e _ _ iha ihb
  rw[exp2 (no7 (.inl e))]
  exact .two e iha ihb
theorem Cz {x:Tr Tok} (h:WT x):szX x<100000->((flat (rz x)).length:Int)<=szX x:=by
 refine WT.ind (p:=fun x=>szX x<100000->((flat (rz x)).length:Int)<=szX x) ?_ ?_ ?_ h
 ·intro t e _
  rw[Wc (no7 (.inr e)),rv]
  show (1:Int)<=min 1 100000
  omega
 ·intro t a e wa ih hs
  have hs':min ((1:Int)+(if t.1=7 then (szX a+3)*t.2.2.2 else szX a)) 100000<100000:=hs
  show _<=min ((1:Int)+(if t.1=7 then (szX a+3)*t.2.2.2 else szX a)) 100000
  rw[Wb]
  by_cases k:t.1=7
  ·have h7:=qj (show 0<=ar t by omega) k
   have hge:szX a+3<=(szX a+3)*t.2.2.2:=by
    have:=Int.mul_le_mul_of_nonneg_left (c:=szX a+3) h7.2.1 (by omega)
    omega
   have h2:=Cy (rz a) t.2.2.2.toNat t.2.2.1
   have h3:(((flat (rz a)).length+3)*t.2.2.2.toNat:Int)<=(szX a+3)*t.2.2.2:=by
    rw[Int.toNat_of_nonneg (by omega)]
    exact Int.mul_le_mul_of_nonneg_right (by omega) (by omega)
   grind
  ·rw[if_neg k,pb]
   grind
 ·intro t a b e wa wb iha ihb hs
  have k:=no7 (.inl e)
  have hs':min ((1:Int)+(if t.1=7 then (szX a+3)*t.2.2.2 else szX a)+(if t.1=7 then (szX b+3)*t.2.2.2 else szX b)) 100000<100000:=hs
  show _<=min ((1:Int)+(if t.1=7 then (szX a+3)*t.2.2.2 else szX a)+(if t.1=7 then (szX b+3)*t.2.2.2 else szX b)) 100000
  grind[exp2,kl,al,aB,aA]
theorem A8 {x:Tr Tok} : ∀(h n:Nat) (low:Int),h<n->h<=3->0<=low->low<=3->lj n x low (h:Int)=some (A7 x h low)
 | 0,n+1,low,_,_,_,_=>by
  rfl
 | h+1,n+1,low,h1,h2,h3,h4=>by
  rw[lj,if_neg (by grind),cZ (n:=low - 1) (by omega) (by omega),cZ (n:=((h+1:Nat):Int) - 1) (by omega) (by omega)]
  rw[show ((h+1:Nat):Int) - 1=(h:Int) from by omega,A8 h n (max 0 (low - 1)) (by omega) (by omega) (by omega) (by omega)];simp[aa]
  rw[A7]
  by_cases c:0<low
  ·grind
  ·rw[if_neg (by grind),if_neg c];rfl
theorem wS {a b:List Tok} {t:Tok} (h:a.length+b.length<=1000000):dI a b t=some ((a++b)++ [t]):=by
 unfold dI gF
 rw[aJ (by simp[al,aB,aA];omega)];simp only[aa,List.nil_append]
 rw[aJ (by omega)];simp only[aa]
 rw[aJ (by simp[al,aB,aA];omega)];rfl
theorem Nj {x:Tr Tok} : ∀(h n:Nat) (low:Int),h<n->h<=3->0<=low->low<=3->(flat x).length<=100000->lh n (flat x) low (h:Int)=some (flat (A7 x h low))
 | 0,n+1,low,_,_,_,_,_=>by
  rfl
 | h+1,n+1,low,h1,h2,h3,h4,h5=>by
  rw[lh,if_neg (by grind),cZ (n:=low - 1) (by omega) (by omega),cZ (n:=((h+1:Nat):Int) - 1) (by omega) (by omega)]
  rw[show ((h+1:Nat):Int) - 1=(h:Int) from by omega,Nj h n (max 0 (low - 1)) (by omega) (by omega) (by omega) (by omega) h5];simp only[aa]
  have hl:=Cy x h (max 0 (low - 1))
  have hl3:((flat x).length+3)*h<=100003*3:=Nat.mul_le_mul (by omega) (by omega)
  rw[wS (by omega),A7];simp only[aa]
  by_cases c:0<low
  ·simp_all[if_pos,kl]
  ·rw[if_neg (by grind),if_neg c,kl,kl,rA]
   unfold oH;simp only[aa]
   rw[wS (by simp[al,aB,aA];omega)];rfl
theorem fU:1000000000000<=bP:=by rw[O2];unfold aR;omega
theorem QX {x:Tr Tok} (h:WT x): ∀n,(flat x).length<=n->bS n x=some (rz x):=by
 have hF:=fU
 refine WT.ind (p:=fun x=> ∀n,(flat x).length<=n->bS n x=some (rz x)) ?_ ?_ ?_ h
 ·intro t e n hn
  have k:=no7 (.inr e)
  match n,hn with
  | n+1,_ =>
   rw[bS];simp[jo,aa]
   rw[if_neg (by grind),Wc k]
   rfl
 ·intro t a e wa ih n hn
  rw[pb,al] at hn
  match n,hn with
  | n+1,hn =>
   have ia:=ih n (by grind)
   rw[bS,Wb];simp only[jo,aa]
   rcases Ep e with ⟨k1,k2⟩ | ⟨k1,k2,k3⟩
   ·have hL:=aP (f:=dK (bS n) (t,[a])) (fun i=>((i:Int),t.1,t.2.1,t.2.2.1,t.2.2.2,[rz a].take i)) 1 (fun i hi=>by
     obtain rfl:i=0:=by omega
     unfold dK
     rw[if_pos (by simp),aG (by omega) (by simp),xx];simp[aa]
     rw[ia];rfl) (by rfl) (by unfold aR;omega)
    grind[ai]
   ·have h7:=qj (show 0<=ar t by omega) k3
    rw[if_pos k2,if_pos k3,show aK [a] 0=some a from rfl];simp only[aa]
    rw[ia];simp only[aa]
    have:=A8 (x:=rz a) t.2.2.2.toNat bP t.2.2.1 (by omega) (by omega) (by omega) (by omega)
    rw[Int.toNat_of_nonneg (by omega)] at this
    rw[this];rfl
 ·intro t a b e wa wb iha ihb n hn
  rw[kl,al,al] at hn
  have k:=no7 (.inl e)
  match n,hn with
  | n+1,hn =>
   have ia:=iha n (by grind)
   have ib:=ihb n (by grind)
   rw[bS,exp2 k];simp[jo,aa]
   have hL:=aP (f:=dK (bS n) (t,[a,b])) (fun i=>((i:Int),t.1,t.2.1,t.2.2.1,t.2.2.2,[rz a,rz b].take i)) 2 (fun i hi=>by
    have:i=0\/i=1:=by omega
    rcases this with rfl | rfl
    ·unfold dK
     rw[if_pos (by simp),aG (by omega) (by simp),xx];simp[aa]
     rw[ia];rfl
    ·unfold dK
     rw[if_pos (by simp),aG (by omega) (by simp),Ng];simp[aa]
     rw[ib];rfl) (by rfl) (by unfold aR;omega)
   grind[ai]
theorem Nk {x:Tr Tok} (h:WT x): ∀n out,(flat x).length<=n->out.length+(flat x).length<=1000000->bL n x out=some (out++flat x):=by
 refine WT.ind (p:=fun x=> ∀n out,(flat x).length<=n->out.length+(flat x).length<=1000000->bL n x out=some (out++flat x)) ?_ ?_ ?_ h
 ·intro t e n out hn hl
  rw[rv] at hn hl⊢
  match n,hn with
  | n+1,_ =>
   rw[bL];simp[jo,aa]
   have hL:=aP (f:=cm (bL n) (t,[])) (fun i=>((i:Int),out)) 0 (fun i hi=>by omega) (by rfl) (by unfold aR;omega)
   grind[ai,aJ]
 ·intro t a e wa ih n out hn hl
  rw[pb] at hn hl⊢
  simp[al,aB,aA] at hn hl
  match n,hn with
  | n+1,hn =>
   rw[bL];simp[jo,aa]
   have hL:=aP (f:=cm (bL n) (t,[a])) (fun i=>((i:Int),if i=0 then out else out++flat a)) 1 (fun i hi=>by
    obtain rfl:i=0:=by omega
    unfold cm
    rw[if_pos (by simp),aG (by omega) (by simp),xx];simp[aa,if_true]
    rw[ih n _ (by omega) (by omega)];rfl) (by rfl) (by unfold aR;omega)
   grind[ai,aJ]
 ·intro t a b e wa wb iha ihb n out hn hl
  rw[kl] at hn hl⊢
  simp[al,aB,aA] at hn hl
  match n,hn with
  | n+1,hn =>
   rw[bL];simp[jo,aa]
   have hL:=aP (f:=cm (bL n) (t,[a,b])) (fun i=>((i:Int),if i=0 then out else if i=1 then out++flat a else (out++flat a)++flat b)) 2 (fun i hi=>by
    have:i=0\/i=1:=by omega
    rcases this with rfl | rfl
    ·unfold cm
     rw[if_pos (by simp),aG (by omega) (by simp),xx];simp[aa,if_true]
     rw[iha n _ (by omega) (by omega)];rfl
    ·unfold cm
     rw[if_pos (by simp),aG (by omega) (by simp),Ng];simp only[aa,if_true]
     rw[ihb n _ (by omega) (by grind)];rfl) (by rfl) (by unfold aR;omega)
   grind[ai,aJ]
theorem QY {x:Tr Tok} (h:WT x): ∀n,(flat x).length<=n->(flat x).length<=1000000->szX x<=50000->cD n (flat x)=some (flat (rz x)):=by
 have hF:=fU
 refine WT.ind (p:=fun x=> ∀n,(flat x).length<=n->(flat x).length<=1000000->szX x<=50000->cD n (flat x)=some (flat (rz x))) ?_ ?_ ?_ h
 ·intro t e n hn hl hs
  rw[rv] at hn hl⊢
  match n,hn with
  | n+1,_ =>
   have hk:=Xp e
   rw[cD]
   have:=(eH (A:=[]) (t:=t) (by simp)).1
   rw[List.nil_append] at this
   rw[this];simp only[aa]
   rw[QW (.inr e)];simp_all[aa,Bool.false_eq_true,if_false,Wc,no7,rv]
 ·intro t a e wa ih n hn hl hs
  have hs':min ((1:Int)+(if t.1=7 then (szX a+3)*t.2.2.2 else szX a)) 100000<=50000:=hs
  rw[pb] at hn hl⊢
  simp[al,aB,aA] at hn hl
  match n,hn with
  | n+1,hn =>
   have hr:=lF wa
   have hsa:szX a<=50000:=by
    by_cases k:t.1=7
    ·rw[if_pos k] at hs'
     have h7:=qj (show 0<=ar t by omega) k
     have hge:szX a+3<=(szX a+3)*t.2.2.2:=by
      have:=Int.mul_le_mul_of_nonneg_left (c:=szX a+3) h7.2.1 (by omega)
      omega
     omega
    ·omega
   have hla:=Cz wa (by omega)
   rw[cD]
   have ⟨l1,l2⟩:=eH (A:=flat a) (t:=t) (by omega)
   rw[l1];simp only[aa]
   rw[QW (.inl e)];simp only[aa,Bool.false_eq_true,if_false]
   rw[l2,Int.toNat_natCast,List.take_left,dZ (by grind)];simp only[aa]
   rw[ih n (by omega) (by omega) hsa,Wb];simp only[aa]
   rcases Ep e with ⟨k1,k2⟩ | ⟨k1,k2,k3⟩
   ·rw[if_pos k1,if_neg (by omega),wS (by grind),pb];simp
   ·have h7:=qj (show 0<=ar t by omega) k3
    rw[if_neg (by grind),if_pos k2,if_pos k3]
    grind[Nj,rz,bP,Int.toNat_of_nonneg]
 ·intro t a b e wa wb iha ihb n hn hl hs
  have k:=no7 (.inl e)
  have hs':min ((1:Int)+(if t.1=7 then (szX a+3)*t.2.2.2 else szX a)+(if t.1=7 then (szX b+3)*t.2.2.2 else szX b)) 100000<=50000:=hs
  rw[if_neg k,if_neg k] at hs'
  rw[kl] at hn hl⊢
  have ⟨p1,p2,p3,p4⟩:=pc (a:=a) (t:=t) wb hl
  simp[al,aB,aA] at hn hl
  match n,hn with
  | n+1,hn =>
   have hra:=lF wa
   have hrb:=lF wb
   have hla:=Cz wa (by omega)
   have hlb:=Cz wb (by omega)
   rw[cD]
   have ⟨l1,l2⟩:=eH (A:=flat a++flat b) (t:=t) (by grind)
   rw[l1];simp only[aa]
   rw[aaa e];simp only[aa,if_true]
   rw[l2,p1,p2,dZ (by grind)];simp only[aa]
   rw[dZ (by grind),p3,p4];simp only[aa]
   rw[iha n (by omega) (by omega) (by omega),dZ (by grind)];simp only[aa]
   rw[ihb n (by omega) (by omega) (by omega)];simp only[aa]
   rw[wS (by omega),exp2 k,kl];rfl
def CA (e:List Tok):List Tok×Bool:=
 if decide (e.length<=24)&&isX e then (if 5000<szX (tL e) then ([],false) else (if 400<(flat (rz (tL e))).length then ([],false) else (flat (rz (tL e)),true))) else ([],false)
theorem zg {e:List Tok} (he:e.length<=1048576):kO e=some (CA e)/\kT e=some (CA e):=by
 have hF:=fU
 unfold kO kT CA
 rw[dj he,dO he];simp only[aa]
 by_cases c:(decide (e.length<=24)&&isX e)=true
 ·rw[if_pos c,if_pos c,if_pos c,pO he];simp[aa]
  rw[ah] at c
  obtain ⟨x,h1,hw,rfl⟩:=A6 c.2
  have h24:(flat x).length<=24:=by simpa using c.1
  rw[fT hw,Xq hw bP (by omega) (by omega),Vd hw bP (by omega)];by_cases c2:5000<szX x
  ·grind
  ·have hl:=Cz hw (by omega)
   rw[QY hw bP (by omega) (by omega) (by omega),QX hw bP (by omega)];simp[aa]
   unfold pE
   rw[Nk (Ni hw) bP [] (by omega) (by grind)];grind
 grind
theorem Ve {e:List Tok} (h:(CA e).2=true): ∃y,WT y/\(CA e).1=flat y/\(flat y).length<=400:=by
 unfold CA at h⊢
 split at h
 ·rename_i c
  rw[ah] at c
  obtain ⟨x,h1,hw,rfl⟩:=A6 c.2
  rw[fT hw] at h⊢
  split at h
  ·cases h
  ·split at h
   ·cases h
   ·grind[Ni]
 grind
end D
namespace D
open Go.RowKit
abbrev Lg:=List Nat->Prop
def tO (A B:Lg):Lg:=fun w=> ∃u v,w=u++v/\A u/\B v
def zh (A:Lg):Nat->Lg
 | 0=>fun w=>w= []
 | n+1=>tO A (zh A n)
def zi (A:Lg):Lg:=fun w=> ∃n,zh A n w
def opL (t:Tok):List Lg->Lg
 | [] =>fun w=>(t.1=2/\w= [])\/(t.1=3/\w= [t.2.1.toNat])
 | [A] =>fun w=>(t.1=6/\zi A w)\/(t.1=7/\ ∃n:Nat,t.2.2.1<=(n:Int)/\(n:Int)<=t.2.2.2/\zh A n w)
 | [A,B] =>fun w=>(t.1=4/\tO A B w)\/(t.1=5/\(A w\/B w))
 | _=>fun _=>False
mutual
def LX:Tr Tok->Lg
 | .nil=>fun _=>False
 | .node t ks=>opL t (LXL ks)
def LXL:List (Tr Tok)->List Lg
 | [] =>[]
 | k::ks=>LX k::LXL ks
end
theorem LX0 (t:Tok):LX (.node t [])=opL t []:=by rw[LX,LXL]
theorem LX1 (t:Tok) (a:Tr Tok):LX (.node t [a])=opL t [LX a]:=by rw[LX,LXL,LXL]
theorem LX2 (t:Tok) (a b:Tr Tok):LX (.node t [a,b])=opL t [LX a,LX b]:=by rw[LX,LXL,LXL,LXL]
theorem Nl {w:List Nat} :LX JQ w↔w= []:=by
 unfold JQ
 rw[LX0]
 constructor
 ·rintro (⟨-,h⟩ | ⟨h,-⟩)
  ·exact h
  ·exact absurd h (by decide)
 ·rintro rfl;exact .inl ⟨rfl,rfl⟩
theorem Sy {a b:Tr Tok} {w:List Nat} :LX (.node (4,0,0,0) [a,b]) w↔tO (LX a) (LX b) w:=by
 rw[LX2]
 constructor
 ·rintro (⟨-,h⟩ | ⟨h,-⟩)
  ·exact h
  ·exact absurd h (by decide)
 ·intro h;exact .inl ⟨rfl,h⟩
theorem Xs {a b:Tr Tok} {w:List Nat} :LX (.node (5,0,0,0) [a,b]) w↔LX a w\/LX b w:=by
 rw[LX2]
 constructor
 ·rintro (⟨h,-⟩ | ⟨-,h⟩)
  ·exact absurd h (by decide)
  ·exact h
 ·intro h;exact .inr ⟨rfl,h⟩
theorem Sz {x:Tr Tok} : ∀(h:Nat) (low:Int) (w:List Nat),low<=(h:Int)->(LX (A7 x h low) w↔ ∃n:Nat,low<=(n:Int)/\n<=h/\zh (LX x) n w)
 | 0,low,w,hl=>by
  rw[A7,Nl]
  constructor
  ·rintro rfl;exact ⟨0,by omega,ay _,rfl⟩
  ·rintro ⟨n,-,h2,h3⟩
   obtain rfl:n=0:=by omega
   exact h3
 | h+1,low,w,hl=>by
  have ih:=fun w=>Sz (x:=x) h (max 0 (low - 1)) w (by omega)
  have key:tO (LX x) (LX (A7 x h (max 0 (low - 1)))) w↔ ∃n:Nat,low<=((n+1:Nat):Int)/\n<=h/\zh (LX x) (n+1) w:=by
   constructor
   ·rintro ⟨u,v,rfl,h1,h2⟩
    obtain ⟨n,h3,h4,h5⟩:=(ih v).1 h2
    exact ⟨n,by omega,h4,u,v,rfl,h1,h5⟩
   ·rintro ⟨n,h1,h2,u,v,rfl,h3,h4⟩
    exact ⟨u,v,rfl,h3,(ih v).2 ⟨n,by omega,h2,h4⟩⟩
  rw[A7]
  by_cases c:0<low
  ·rw[if_pos c,Sy,key]
   constructor
   ·rintro ⟨n,h1,h2,h3⟩
    exact ⟨n+1,h1,by omega,h3⟩
   ·rintro ⟨n,h1,h2,h3⟩
    match n,h1,h2,h3 with
    | 0,h1,_,_=>omega
    | n+1,h1,h2,h3=>exact ⟨n,h1,by omega,h3⟩
  ·rw[if_neg c,Xs,Sy,key,Nl]
   constructor
   ·rintro (⟨n,h1,h2,h3⟩ | rfl)
    ·exact ⟨n+1,h1,by omega,h3⟩
    ·exact ⟨0,by omega,by omega,rfl⟩
   ·rintro ⟨n,h1,h2,h3⟩
    match n,h1,h2,h3 with
    | 0,_,_,h3=>exact .inr h3
    | n+1,h1,h2,h3=>exact .inl ⟨n,h1,by omega,h3⟩
theorem Xt {x:Tr Tok} (h:WT x):LX (rz x)=LX x:=by
 refine WT.ind (p:=fun x=>LX (rz x)=LX x) ?_ ?_ ?_ h
 ·intro t e
  rw[Wc (no7 (.inr e))]
 ·intro t a e wa ih
  rw[Wb]
  rcases Ep e with ⟨k1,k2⟩ | ⟨k1,k2,k3⟩
  ·rw[if_neg (by omega),LX1,LX1,ih]
  ·rw[if_pos k3,LX1]
   have h7:=qj (show 0<=ar t by omega) k3
   funext w
   rw[Sz _ _ _ (by omega),ih]
   apply propext
   constructor
   ·rintro ⟨n,h1,h2,h3⟩
    exact .inr ⟨k3,n,h1,by omega,h3⟩
   ·rintro (⟨k,-⟩ | ⟨-,n,h1,h2,h3⟩)
    ·omega
    ·exact ⟨n,h1,by omega,h3⟩
 ·intro t a b e wa wb iha ihb
  rw[exp2 (no7 (.inl e)),LX2,LX2,iha,ihb]
theorem JR {A B C:Lg} :tO (tO A B) C=tO A (tO B C):=by
 funext w
 apply propext
 constructor
 ·rintro ⟨x,y,rfl,⟨u,v,rfl,h1,h2⟩,h3⟩
  exact ⟨u,v++y,by simp,h1,v,y,rfl,h2,h3⟩
 ·rintro ⟨x,y,rfl,h1,u,v,rfl,h2,h3⟩
  exact ⟨x++u,v,by simp,⟨x,u,rfl,h1,h2⟩,h3⟩
theorem QZ {A:Lg} :tO A (fun w=>w= [])=A:=by
 funext w
 apply propext
 constructor
 ·rintro ⟨u,v,rfl,h1,rfl⟩
  rw[List.append_nil];exact h1
 ·intro h
  exact ⟨w,[],by simp,h,rfl⟩
theorem Q0 {A:Lg} :tO (fun w=>w= []) A=A:=by
 funext w
 apply propext
 constructor
 ·rintro ⟨u,v,rfl,rfl,h1⟩
  exact h1
 ·intro h
  exact ⟨[],w,rfl,rfl,h⟩
theorem pd {A:Lg} : ∀n,zh A (n+1)=tO (zh A n) A
 | 0=>by
  show tO A (fun w=>w= [])=tO (fun w=>w= []) A
  rw[QZ,Q0]
 | n+1=>by
  show tO A (zh A (n+1))=tO (tO A (zh A n)) A
  rw[pd n,JR]
end D
namespace D
open Go.RowKit
def seg (w:List Nat) (i j:Nat):List Nat:=(w.take j).drop i
theorem wg {w:List Nat} {i j:Nat} (h:j<=w.length):(seg w i j).length=j - i:=by
 unfold seg;rw[bC,aF];omega
theorem Nm (w:List Nat):seg w 0 w.length=w:=by unfold seg;simp
theorem H2 {w:List Nat} {i j:Nat} (n:Nat) (hj:i+n<=j):(seg w i j).take n=seg w i (i+n):=by
 unfold seg
 rw[List.take_drop,List.take_take,Nat.min_eq_left hj]
theorem H3 {w:List Nat} {i j:Nat} (n:Nat):(seg w i j).drop n=seg w (i+n) j:=by
 unfold seg
 rw[List.drop_drop]
theorem Nn {w:List Nat} {i j k:Nat} (h1:i<=k) (h2:k<=j):seg w i k++seg w k j=seg w i j:=by
 have e1:seg w i k=(seg w i j).take (k - i):=by rw[H2 (k - i) (by omega),show i+(k - i)=k by omega]
 have e2:seg w k j=(seg w i j).drop (k - i):=by rw[H3,show i+(k - i)=k by omega]
 rw[e1,e2,List.take_append_drop]
theorem No {A B:Lg} {w:List Nat} {i j:Nat} (h:i<=j) (hj:j<=w.length):tO A B (seg w i j)↔ ∃k,i<=k/\k<=j/\A (seg w i k)/\B (seg w k j):=by
 constructor
 ·rintro ⟨u,v,e,h1,h2⟩
  have hl:=congrArg List.length e
  rw[wg hj,al] at hl
  refine ⟨i+u.length,by omega,by omega,?_,?_⟩
  ·rw[<-H2 (j:=j) u.length (by omega),e,List.take_left];exact h1
  ·rw[<-H3 u.length,e,List.drop_left];exact h2
 ·rintro ⟨k,h1,h2,h3,h4⟩
  exact ⟨_,_,(Nn h1 h2).symm,h3,h4⟩
theorem Er {A:Lg} : ∀(n:Nat) (u:List Nat),zh A n u-> ∃j,j<=u.length/\zh A j u
 | 0,u,h=>by
  obtain rfl:u= []:=h
  exact ⟨0,ay _,rfl⟩
 | n+1,u,h=>by
  obtain ⟨a,b,rfl,h1,h2⟩:=h
  obtain ⟨j,h3,h4⟩:=Er n b h2
  cases a with
  | nil=>exact ⟨j,h3,h4⟩
  | cons x a=>exact ⟨j+1,by simp;omega,x::a,b,rfl,h1,h4⟩
theorem JS {A:Lg} {u:List Nat} {n:Nat} (h:u.length<=n):zi A u↔ ∃j,j<=n/\zh A j u:=by
 constructor
 ·rintro ⟨m,hm⟩
  obtain ⟨j,h1,h2⟩:=Er m u hm
  exact ⟨j,by omega,h2⟩
 ·rintro ⟨j,-,h2⟩;exact ⟨j,h2⟩
def LetL (A:Lg) (p:Nat->Prop):Prop:= ∀w,A w-> ∀k∈w,p k
theorem LetL.cat {A B:Lg} {p:Nat->Prop} (ha:LetL A p) (hb:LetL B p):LetL (tO A B) p:=by
 rintro w ⟨u,v,rfl,h1,h2⟩ k hk
 rcases aH hk with hk | hk
 ·exact ha u h1 k hk
 ·exact hb v h2 k hk
theorem LetL.pow {A:Lg} {p:Nat->Prop} (ha:LetL A p): ∀n,LetL (zh A n) p
 | 0=>by rintro w rfl k hk;cases hk
 | n+1=>ha.cat (LetL.pow ha n)
def MtR (n:Nat) (r:Nat->Nat->Prop) (M:List (List Bool)):Prop:=M.length=n/\(∀x∈M,x.length=n)/\ ∀i j,i<n->j<n->(nth (nth M (i:Int)) (j:Int)=true↔r i j)
theorem zj {α:Type} [Inhabited α] {xs:List α} {i k:Nat} {v:α} (h:i<xs.length):nth (xs.set i v) (k:Int)=if k=i then v else nth xs (k:Int):=by
 unfold nth
 rw[Int.toNat_natCast,List.getD_eq_getElem?_getD,List.getD_eq_getElem?_getD,List.getElem?_set]
 by_cases c:k=i
 ·rw[if_pos c.symm,if_pos h,if_pos c];rfl
 ·rw[if_neg (fun e=>c e.symm),if_neg c]
theorem MtR.row {n:Nat} {r:Nat->Nat->Prop} {M:List (List Bool)} (h:MtR n r M) {i:Nat} (hi:i<n):(nth M (i:Int)).length=n:=h.2.1 _ (cO (by omega) (by have:=h.1;omega))
theorem MtR.ext {n:Nat} {r r':Nat->Nat->Prop} {M:List (List Bool)} (h:MtR n r M) (e: ∀i j,i<n->j<n->(r i j↔r' i j)):MtR n r' M:=⟨h.1,h.2.1,fun i j hi hj=>(h.2.2 i j hi hj).trans (e i j hi hj)⟩
theorem MtR.set {n:Nat} {r:Nat->Nat->Prop} {M:List (List Bool)} (h:MtR n r M) {i j:Nat} (hi:i<n) (hj:j<n) (v:Bool):MtR n (fun a b=>if a=i/\b=j then v=true else r a b) (M.set i ((nth M (i:Int)).set j v)):=by
 have hr:=h.row hi
 refine ⟨by rw[List.length_set];exact h.1,fun x hx=>?_,fun a b ha hb=>?_⟩
 ·rcases List.mem_or_eq_of_mem_set hx with hx | rfl
  ·exact h.2.1 x hx
  ·rw[List.length_set];exact hr
 ·show _↔if a=i/\b=j then v=true else r a b
  rw[zj (by have:=h.1;omega)]
  by_cases c:a=i
  ·subst c
   rw[if_pos rfl,zj (by omega)]
   by_cases d:b=j
   ·rw[if_pos d,if_pos ⟨rfl,d⟩]
   ·rw[if_neg d,if_neg (fun c=>d c.2)];exact h.2.2 a b ha hb
  ·rw[if_neg c,if_neg (fun d=>c d.1)];exact h.2.2 a b ha hb
theorem MtR.at {n:Nat} {r:Nat->Nat->Prop} {M:List (List Bool)} (h:MtR n r M) {i j:Nat} (hi:i<n) (hj:j<n):aK M (i:Int)=some (nth M (i:Int))/\aK (nth M (i:Int)) (j:Int)=some (nth (nth M (i:Int)) (j:Int)):=⟨aG (by omega) (by have:=h.1;omega),aG (by omega) (by have:=h.row hi;omega)⟩
def SqL (w:List Nat) (A:Lg):Nat->Nat->Prop:=fun i j=>i<=j/\A (seg w i j)
theorem SqL.cat {w:List Nat} {A B:Lg} {i j:Nat} (hj:j<w.length+1):SqL w (tO A B) i j↔ ∃k,k<w.length+1/\SqL w A i k/\SqL w B k j:=by
 constructor
 ·rintro ⟨h,hc⟩
  obtain ⟨k,h1,h2,h3,h4⟩:=(No h (by omega)).1 hc
  exact ⟨k,by omega,⟨h1,h3⟩,h2,h4⟩
 ·rintro ⟨k,hk,⟨h1,h3⟩,h2,h4⟩
  exact ⟨by omega,(No (by omega) (by omega)).2 ⟨k,h1,h2,h3,h4⟩⟩
theorem SqL.nil {w:List Nat} {i j:Nat} (hj:j<w.length+1):SqL w (fun u=>u= []) i j↔i=j:=by
 constructor
 ·rintro ⟨h,e⟩
  have:=congrArg List.length e
  rw[wg (by omega)] at this
  simp at this
  omega
 ·rintro rfl
  exact ⟨ay _,List.eq_nil_of_length_eq_zero (by rw[wg (by omega)];omega)⟩
theorem SqL.letter {w:List Nat} {c i j:Nat} (hj:j<w.length+1):SqL w (fun u=>u= [c]) i j↔j=i+1/\w[i]? =some c:=by
 have key: ∀i,i+1<w.length+1->seg w i (i+1)= [w[i]?.getD 0]:=fun i hi=>by
  have h:i<w.length:=by omega
  unfold seg
  rw[List.take_succ_eq_append_getElem h,List.drop_append_of_le_length (by rw[aF];omega),List.drop_of_length_le (by rw[aF];omega)]
  simp[h]
 constructor
 ·rintro ⟨h,e⟩
  have hl:=congrArg List.length e
  rw[wg (by omega)] at hl
  simp at hl
  obtain rfl:j=i+1:=by omega
  rw[key i hj] at e
  have h:i<w.length:=by omega
  refine ⟨rfl,?_⟩
  simp[h] at e
  simp[h,e]
 ·rintro ⟨rfl,e⟩
  refine ⟨by omega,?_⟩
  rw[key i hj,e];rfl
theorem Xu {x:Tr Tok} (h:WT x):LetL (LX x) fun k=> ∃t∈flat x,t.1=3/\k=t.2.1.toNat:=by
 refine WT.ind (p:=fun x=>LetL (LX x) fun k=> ∃t∈flat x,t.1=3/\k=t.2.1.toNat) ?_ ?_ ?_ h
 ·intro t e w hw k hk
  rw[LX0] at hw
  rcases hw with ⟨-,rfl⟩ | ⟨h3,rfl⟩
  ·cases hk
  ·exact ⟨t,by rw[rv];simp,h3,ak hk⟩
 ·intro t a e wa ih w hw k hk
  have ih':LetL (LX a) fun k=> ∃t'∈flat (.node t [a]),t'.1=3/\k=t'.2.1.toNat:=fun w hw k hk=>by
   obtain ⟨t',h1,h2⟩:=ih w hw k hk
   exact ⟨t',by rw[pb];simp[h1],h2⟩
  rw[LX1] at hw
  rcases hw with ⟨-,n,hn⟩ | ⟨-,n,-,-,hn⟩
  ·exact ih'.pow n w hn k hk
  ·exact ih'.pow n w hn k hk
 ·intro t a b e wa wb iha ihb w hw k hk
  have ha:LetL (LX a) fun k=> ∃t'∈flat (.node t [a,b]),t'.1=3/\k=t'.2.1.toNat:=fun w hw k hk=>by
   obtain ⟨t',h1,h2⟩:=iha w hw k hk
   exact ⟨t',by rw[kl];simp[h1],h2⟩
  have hb:LetL (LX b) fun k=> ∃t'∈flat (.node t [a,b]),t'.1=3/\k=t'.2.1.toNat:=fun w hw k hk=>by
   obtain ⟨t',h1,h2⟩:=ihb w hw k hk
   exact ⟨t',by rw[kl];simp[h1],h2⟩
  rw[LX2] at hw
  rcases hw with ⟨-,hw⟩ | ⟨-,hw | hw⟩
  ·exact ha.cat hb w hw k hk
  ·exact ha w hw k hk
  ·exact hb w hw k hk
end D
namespace D
open Go.RowKit
theorem aab {n:Nat} (hn:n<=100):mkI 1 (n:Int) false=some (List.replicate n false):=by unfold mkI;rw[if_pos (by omega)];simp
theorem Vf {n j:Nat} (hj:j<n):nth (List.replicate n false) (j:Int)=false:=by rw[br (by simpa using hj)];simp
theorem aac {n i:Nat} (same:Bool) (hi:i<n) {j:Nat} (hj:j<n):nth ((List.replicate n false).set i same) (j:Int)=(if j=i then same else false):=by
 rw[zj (by simpa using hi),Vf hj]
theorem H4 {n:Nat} (hn:n<=100) (same:Bool): ∃M,eO (n:Int) same=some M/\MtR n (fun i j=>i=j/\same=true) M:=by
 obtain ⟨s,e,h1,h2,h3,h4⟩:=a7 (f:=mb (n:Int) same) (fun i s=>s.2=(i:Int)/\s.1.length=i/\(∀x∈s.1,x.length=n)/\ ∀a b,a<i->b<n->(nth (nth s.1 (a:Int)) (b:Int)=true↔a=b/\same=true)) n (fun i s hi hI=>by
  obtain ⟨M,k⟩:=s
  obtain ⟨h1,h2,h3,h4⟩:=hI
  have h1:k=(i:Int):=h1
  subst h1
  unfold mb
  simp only
  rw[if_pos (decide_eq_true (by omega)),aab hn];simp only[aa]
  rw[aG (by omega) (by simp;omega)];simp only[aa]
  rw[aJ (by simp only[aB,aA];have:M.length=i:=h2;omega)];simp only[aa]
  refine ⟨_,rfl,af (by omega),by simp;exact h2,fun x hx=>?_,fun a b ha hb=>?_⟩
  ·rcases aH hx with hx | hx
   ·exact h3 x hx
   ·rw[ak hx];simp
  ·by_cases c:a<i
   ·rw[fS (by omega) (by have:M.length=i:=h2;omega)];exact h4 a b c hb
   ·obtain rfl:a=i:=by omega
    have e1:nth (M++ [(List.replicate n false).set (a:Int).toNat same]) (a:Int)=(List.replicate n false).set a same:=by
     rw[br (by simp;have:M.length=a:=h2;omega)]
     simp[show M.length=a from h2]
    show nth (nth (M++ [_]) (a:Int)) (b:Int)=true↔_
    rw[e1,aac same hi hb]
    by_cases c:b=a
    ·rw[if_pos c];simp[c]
    ·rw[if_neg c];exact ⟨fun h=>(by cases h),fun h=>absurd h.1.symm c⟩) (fun s hI=>by
  obtain ⟨M,k⟩:=s
  have h1:k=(n:Int):=hI.1
  subst h1
  unfold mb
  simp) (s:=(([] :List (List Bool)),0)) ⟨rfl,rfl,fun x hx=>(by cases hx),fun a b ha=>by omega⟩ (fW (by omega))
 unfold eO
 rw[ai e]
 exact ⟨_,rfl,h2,h3,h4⟩
theorem H5 {n:Nat} (hn:n<=100) (same:Bool): ∃M,j6 (n:Int) same=some M/\MtR n (fun i j=>i=j/\same=true) M:=by
 unfold j6
 have e0:mkI 24 (n:Int) ([] :List Bool)=some (List.replicate n []):=by unfold mkI;rw[if_pos (by omega)];simp
 rw[e0];simp only[aa]
 obtain ⟨s,e,h1,h2,h3⟩:=a7 (f:=pD (n:Int) same (List.replicate n [])) (fun i s=>s.2=(i:Int)/\s.1.length=n/\ ∀a,a<i->(nth s.1 (a:Int)).length=n/\ ∀b,b<n->(nth (nth s.1 (a:Int)) (b:Int)=true↔a=b/\same=true)) n (fun i s hi hI=>by
  obtain ⟨M,k⟩:=s
  obtain ⟨h1,h2,h3⟩:=hI
  have h1:k=(i:Int):=h1
  have h2:M.length=n:=h2
  subst h1
  unfold pD
  simp only
  rw[if_pos (by simp;omega),aab hn];simp only[aa]
  have g2:aK (M.set (i:Int).toNat (List.replicate n false)) (i:Int)=some (List.replicate n false):=by
   rw[aG (by omega) (by simp;omega),Int.toNat_natCast,zj (by omega),if_pos rfl]
  rw[aG (by omega) (by omega)];simp only[aa]
  rw[g2];simp only[aa]
  rw[aG (by omega) (by simp;omega)];simp only[aa]
  refine ⟨_,rfl,af (by omega),by simp;exact h2,fun a ha=>?_⟩
  simp only[Int.toNat_natCast,List.set_set]
  rw[zj (by omega)]
  by_cases c:a=i
  ·subst c
   rw[if_pos rfl]
   refine ⟨by simp,fun b hb=>?_⟩
   rw[aac same hi hb]
   by_cases c:b=a
   ·rw[if_pos c];simp[c]
   ·rw[if_neg c];exact ⟨fun h=>(by cases h),fun h=>absurd h.1.symm c⟩
  ·rw[if_neg c];exact h3 a (by omega)) (fun s hI=>by
  obtain ⟨M,k⟩:=s
  have h1:k=(n:Int):=hI.1
  subst h1
  unfold pD
  simp) (s:=(List.replicate n ([] :List Bool),0)) ⟨rfl,by simp,fun a ha=>by omega⟩ (fW (by omega))
 rw[ai e]
 refine ⟨_,rfl,h2,fun x hx=>?_,fun i j hi hj=>(h3 i hi).2 j hj⟩
 obtain ⟨a,ha,rfl⟩:=List.getElem_of_mem hx
 rw[<-br ha]
 exact (h3 a (by omega)).1
theorem MtR.put {n:Nat} {r:Nat->Nat->Prop} {M:List (List Bool)} (h:MtR n r M) {i j:Nat} (hi:i<n) (hj:j<n) {v:Bool} {p:Prop} (hv:v=true↔p):MtR n (fun a b=>if a=i/\b=j then p else r a b) (M.set (i:Int).toNat ((nth M (i:Int)).set (j:Int).toNat v)):=by
 rw[Int.toNat_natCast,Int.toNat_natCast]
 refine (h.set hi hj v).ext fun a b _ _=>?_
 by_cases c:a=i/\b=j
 ·rw[if_pos c,if_pos c];exact hv
 ·rw[if_neg c,if_neg c]
theorem Q2 {n:Nat} (hn:n<=100) {r q:Nat->Nat->Prop} {A B:List (List Bool)} (ha:MtR n r A) (hb:MtR n q B): ∃M,kG A B=some M/\MtR n (fun i j=>r i j\/q i j) M:=by
 obtain ⟨M0,e0,k0⟩:=H5 hn false
 unfold kG
 rw[ha.1,e0];simp only[aa]
 obtain ⟨s,e,h1,h2⟩:=a7 (f:=mo A B) (fun i s=>s.2=(i:Int)/\MtR n (fun a b=>a<i/\(r a b\/q a b)) s.1) n (fun i s hi hI=>by
  obtain ⟨M,k⟩:=s
  obtain ⟨h1,h2⟩:=hI
  have h1:k=(i:Int):=h1
  subst h1
  have hrow:=ha.row hi
  obtain ⟨s2,e2,g1,g2⟩:=a7 (f:=mn A B (M,(i:Int)) (nth A (i:Int))) (fun j s=>s.2=(j:Int)/\MtR n (fun a b=>(a<i\/(a=i/\b<j))/\(r a b\/q a b)) s.1) n (fun j s hj hI=>by
   obtain ⟨M,k⟩:=s
   obtain ⟨h1,h2⟩:=hI
   have h1:k=(j:Int):=h1
   subst h1
   unfold mn
   simp only
   rw[if_pos (by simp;omega),(h2.at hi hj).1,(ha.at hi hj).1];simp only[aa]
   rw[(ha.at hi hj).2];simp only[aa]
   have fin: ∀v:Bool,(v=true↔r i j\/q i j)->MtR n (fun a b=>(a<i\/(a=i/\b<j+1))/\(r a b\/q a b)) (M.set (i:Int).toNat ((nth M (i:Int)).set (j:Int).toNat v)):=fun v hv=>(h2.put hi hj hv).ext fun a b _ _=>by
    by_cases c:a=i/\b=j
    ·rw[if_pos c,c.1,c.2];exact ⟨fun h=>⟨.inr ⟨rfl,by omega⟩,h⟩,fun h=>h.2⟩
    ·rw[if_neg c]
     exact ⟨fun h=>⟨h.1.imp id (fun k=>⟨k.1,by omega⟩),h.2⟩,fun h=>⟨h.1.imp id (fun k=>⟨k.1,by have:=k.2;have:=k.1;omega⟩),h.2⟩⟩
   by_cases c:nth (nth A (i:Int)) (j:Int)=true
   ·rw[if_pos c,(h2.at hi hj).2];simp only[aa]
    exact ⟨_,rfl,af (by omega),fin true ⟨fun _=>.inl ((ha.2.2 i j hi hj).1 c),fun _=>rfl⟩⟩
   ·rw[if_neg c,(hb.at hi hj).1];simp only[aa]
    rw[(hb.at hi hj).2,(h2.at hi hj).2];simp only[aa]
    exact ⟨_,rfl,af (by omega),fin _ ((hb.2.2 i j hi hj).trans ⟨.inr,fun h=>h.resolve_left fun h=>c ((ha.2.2 i j hi hj).2 h)⟩)⟩) (fun s hI=>by
   obtain ⟨M,k⟩:=s
   have h1:k=(n:Int):=hI.1
   subst h1
   unfold mn
   simp only
   rw[if_neg (by simp;omega)]) (s:=(M,0)) ⟨rfl,h2.ext fun a b _ _=>⟨fun h=>⟨.inl h.1,h.2⟩,fun h=>⟨h.1.resolve_right (by omega),h.2⟩⟩⟩ (fW (by omega))
  unfold mo
  simp only
  rw[if_pos (by simp;have:=ha.1;omega),(ha.at hi hi).1];simp only[aa]
  rw[ai e2]
  exact ⟨_,rfl,af (by omega),g2.ext fun a b _ hb=>⟨fun h=>⟨by omega,h.2⟩,fun h=>⟨by omega,h.2⟩⟩⟩) (fun s hI=>by
  obtain ⟨M,k⟩:=s
  have h1:k=(n:Int):=hI.1
  subst h1
  unfold mo
  simp only
  rw[if_neg (by simp;have:=ha.1;omega)]) (s:=(M0,0)) ⟨rfl,k0.ext fun a b _ _=>⟨fun h=>(by cases h.2),fun h=>by omega⟩⟩ (fW (by omega))
 rw[ai e]
 exact ⟨_,rfl,h2.ext fun a b ha _=>⟨fun h=>h.2,fun h=>⟨ha,h⟩⟩⟩
theorem Xv (inst:Decidable True): @chk True inst=some ():=by unfold chk;simp
theorem Xw {n:Nat} (hn:n<=100) {R q:Nat->Nat->Prop} {B M:List (List Bool)} (hb:MtR n q B) (hM:MtR n R M) {i k j:Nat} (hi:i<n) (hk:k<n) (hj:j<n) (Z:List (List Bool)) :
  ∃v:Bool,(v=true↔R i j\/q k j)/\iI B ((i:Int),Z) ((k:Int),Z) (nth B (k:Int)) ((j:Int),M)=some (.nxt (((j+1:Nat):Int),M.set (i:Int).toNat ((nth M (i:Int)).set (j:Int).toNat v))):=by
 have hl:=hM.1
 have hrow:=hb.row hk
 have c1:chk ((i:Int)<((M.set (i:Int).toNat ([] :List Bool)).length:Int))=some ():=if_pos (by simp;omega)
 unfold iI
 simp only
 rw[if_pos (by simp;omega),(hM.at hi hj).1];simp only[aa]
 rw[c1];simp only[aa]
 simp only[Xv,aa]
 rw[(hM.at hi hj).2];simp only[aa]
 rw[af (show j<9223372036854775807 by have:=hi;omega)]
 by_cases c:nth (nth M (i:Int)) (j:Int)=true
 ·rw[if_pos c]
  exact ⟨true,⟨fun _=>.inl ((hM.2.2 i j hi hj).1 c),fun _=>rfl⟩,rfl⟩
 ·rw[if_neg c,(hb.at hk hj).1];simp only[aa]
  rw[(hb.at hk hj).2]
  exact ⟨_,(hb.2.2 k j hk hj).trans ⟨.inr,fun h=>h.resolve_left fun h=>c ((hM.2.2 i j hi hj).2 h)⟩,rfl⟩
theorem Q3 {n:Nat} (hn:n<=100) {r q:Nat->Nat->Prop} {A B:List (List Bool)} (ha:MtR n r A) (hb:MtR n q B): ∃M,kF A B=some M/\MtR n (fun i j=> ∃k,k<n/\r i k/\q k j) M:=by
 obtain ⟨M0,e0,k0⟩:=H5 hn false
 unfold kF
 rw[ha.1,e0];simp only[aa]
 obtain ⟨s,e,h1,h2⟩:=a7 (f:=mj A B) (fun i s=>s.1=(i:Int)/\MtR n (fun a b=>a<i/\ ∃k,k<n/\r a k/\q k b) s.2) n (fun i s hi hI=>by
  obtain ⟨x,M⟩:=s
  obtain ⟨h1,h2⟩:=hI
  have h1:x=(i:Int):=h1
  subst h1
  have hrow:=ha.row hi
  obtain ⟨s2,e2,g1,g2⟩:=a7 (f:=mi A B ((i:Int),M) (nth A (i:Int))) (fun k s=>s.1=(k:Int)/\MtR n (fun a b=>(a<i/\ ∃k,k<n/\r a k/\q k b)\/(a=i/\ ∃k',k'<k/\r i k'/\q k' b)) s.2) n (fun k s hk hI=>by
   obtain ⟨x,M2⟩:=s
   obtain ⟨h1,h2⟩:=hI
   have h1:x=(k:Int):=h1
   subst h1
   unfold mi
   simp only
   rw[if_pos (by simp;omega),(ha.at hi hk).1];simp only[aa]
   rw[(ha.at hi hk).2];simp only[aa]
   by_cases c:nth (nth A (i:Int)) (k:Int)=true
   ·have hr:=(ha.2.2 i k hi hk).1 c
    obtain ⟨s3,e3,f1,f2⟩:=a7 (f:=iI B ((i:Int),M) ((k:Int),M2) (nth B (k:Int))) (fun j s=>s.1=(j:Int)/\MtR n (fun a b=>((a<i/\ ∃k,k<n/\r a k/\q k b)\/(a=i/\ ∃k',k'<k/\r i k'/\q k' b))\/(a=i/\b<j/\q k b)) s.2) n (fun j s hj hI=>by
     obtain ⟨x,M3⟩:=s
     obtain ⟨h1,h3⟩:=hI
     have h1:x=(j:Int):=h1
     subst h1
     obtain ⟨v,hv,ev⟩:=Xw hn hb h3 hi hk hj M
     refine ⟨_,(show iI B ((i:Int),M) ((k:Int),M2) (nth B (k:Int)) ((j:Int),M3)=_ from ev),rfl,(h3.put hi hj hv).ext fun a b _ _=>?_⟩
     by_cases d:a=i/\b=j
     ·rw[if_pos d,d.1,d.2]
      exact ⟨fun h=>h.elim (fun h=>h.elim .inl fun h=>.inr ⟨rfl,by omega,h.2.2⟩) fun h=>.inr ⟨rfl,by omega,h⟩,fun h=>h.elim (fun h=>.inl (.inl h)) fun h=>.inr h.2.2⟩
     ·rw[if_neg d]
      exact ⟨fun h=>h.imp id fun h=>⟨h.1,by omega,h.2.2⟩,fun h=>h.imp id fun h=>⟨h.1,by have:=h.1;have:=h.2.1;omega,h.2.2⟩⟩) (fun s hI=>by
     obtain ⟨x,M3⟩:=s
     have h1:x=(n:Int):=hI.1
     subst h1
     have:=hb.row hk
     unfold iI
     simp only
     rw[if_neg (by simp;omega)]) (s:=(0,M2)) ⟨rfl,h2.ext fun a b _ _=>⟨.inl,fun h=>h.resolve_right fun h=>by omega⟩⟩ (fW (by omega))
    rw[if_pos c,(hb.at hk hk).1];simp only[aa]
    rw[ai e3];simp only[aa]
    refine ⟨_,rfl,af (by omega),f2.ext fun a b _ hb'=>⟨fun h=>?_,fun h=>?_⟩⟩
    ·rcases h with (h | ⟨h1,k',h2,h3⟩) | ⟨h1,-,h3⟩
     ·exact .inl h
     ·exact .inr ⟨h1,k',by omega,h3⟩
     ·exact .inr ⟨h1,k,by omega,hr,h3⟩
    ·rcases h with h | ⟨p1,k',p2,p3⟩
     ·exact .inl (.inl h)
     ·by_cases d:k'=k
      ·subst d;exact .inr ⟨p1,hb',p3.2⟩
      ·exact .inl (.inr ⟨p1,k',by omega,p3⟩)
   ·rw[if_neg c];simp only[aa]
    refine ⟨_,rfl,af (by omega),h2.ext fun a b _ _=>⟨fun h=>h.imp id fun ⟨h1,k',h2,h3⟩=>⟨h1,k',by omega,h3⟩,fun h=>h.imp id fun ⟨g1,k',g2,g3⟩=>⟨g1,k',?_,g3⟩⟩⟩
    by_cases d:k'=k
    ·subst d;exact absurd ((ha.2.2 i k' hi hk).2 g3.1) c
    ·omega) (fun s hI=>by
   obtain ⟨x,M2⟩:=s
   have h1:x=(n:Int):=hI.1
   subst h1
   unfold mi
   simp only
   rw[if_neg (by simp;omega)]) (s:=(0,M)) ⟨rfl,h2.ext fun a b _ _=>⟨.inl,fun h=>h.resolve_right fun ⟨_,k',h,_⟩=>by omega⟩⟩ (fW (by omega))
  unfold mj
  simp only
  rw[if_pos (by simp;have:=ha.1;omega),(ha.at hi hi).1];simp only[aa]
  rw[ai e2]
  exact ⟨_,rfl,af (by omega),g2.ext fun a b _ _=>⟨fun h=>h.elim (fun h=>⟨by omega,h.2⟩) fun ⟨h1,h⟩=>⟨by omega,by rw[h1];exact h⟩,fun ⟨h1,h⟩=>by
   by_cases d:a=i
   ·subst d;exact .inr ⟨rfl,h⟩
   ·exact .inl ⟨by omega,h⟩⟩⟩) (fun s hI=>by
  obtain ⟨x,M⟩:=s
  have h1:x=(n:Int):=hI.1
  subst h1
  unfold mj
  simp only
  rw[if_neg (by simp;have:=ha.1;omega)]) (s:=(0,M0)) ⟨rfl,k0.ext fun a b _ _=>⟨fun h=>(by cases h.2),fun h=>by omega⟩⟩ (fW (by omega))
 rw[ai e]
 exact ⟨_,rfl,h2.ext fun a b ha _=>⟨fun h=>h.2,fun h=>⟨ha,h⟩⟩⟩
theorem Q4 {n:Nat} (hn:n<=100) {r q:Nat->Nat->Prop} {A B:List (List Bool)} (ha:MtR n r A) (hb:MtR n q B) (tr: ∀a b,r a b->a<=b) (tq: ∀a b,q a b->a<=b): ∃M,jI A B=some M/\MtR n (fun i j=>r i j\/q i j) M:=by
 obtain ⟨M0,e0,k0⟩:=H4 hn false
 have hal:=ha.1
 unfold jI
 rw[ha.1,e0];simp only[aa]
 obtain ⟨s,e,h1,h2⟩:=a7 (f:=j3 A B) (fun i s=>s.2=(i:Int)/\MtR n (fun a b=>a<i/\(r a b\/q a b)) s.1) n (fun i s hi hI=>by
  obtain ⟨M,k⟩:=s
  obtain ⟨h1,h2⟩:=hI
  have h1:k=(i:Int):=h1
  subst h1
  obtain ⟨s2,e2,g1,g2⟩:=a7 (f:=j2 A B (M,(i:Int))) (fun t s=>s.2=((i+t:Nat):Int)/\MtR n (fun a b=>(a<i\/(a=i/\b<i+t))/\(r a b\/q a b)) s.1) (n - i) (fun t s ht hI=>by
   obtain ⟨M,k⟩:=s
   obtain ⟨h1,h2⟩:=hI
   have h1:k=((i+t:Nat):Int):=h1
   subst h1
   have hj:i+t<n:=by omega
   unfold j2
   simp only
   rw[if_pos (decide_eq_true (by omega)),(h2.at hi hj).1,(ha.at hi hj).1];simp only[aa]
   rw[(ha.at hi hj).2];simp only[aa]
   have fin: ∀v:Bool,(v=true↔r i (i+t)\/q i (i+t))->MtR n (fun a b=>(a<i\/(a=i/\b<i+(t+1)))/\(r a b\/q a b)) (M.set (i:Int).toNat ((nth M (i:Int)).set ((i+t:Nat):Int).toNat v)):=fun v hv=>(h2.put hi hj hv).ext fun a b _ _=>by
    by_cases c:a=i/\b=i+t
    ·rw[if_pos c,c.1,c.2];exact ⟨fun h=>⟨.inr ⟨rfl,by omega⟩,h⟩,fun h=>h.2⟩
    ·rw[if_neg c]
     exact ⟨fun h=>⟨h.1.imp id (fun k=>⟨k.1,by omega⟩),h.2⟩,fun h=>⟨h.1.imp id (fun k=>⟨k.1,by have:=k.2;have:=k.1;omega⟩),h.2⟩⟩
   by_cases c:nth (nth A (i:Int)) ((i+t:Nat):Int)=true
   ·rw[if_pos c,(h2.at hi hj).2];simp only[aa]
    exact ⟨_,rfl,af (by omega),fin true ⟨fun _=>.inl ((ha.2.2 i _ hi hj).1 c),fun _=>rfl⟩⟩
   ·rw[if_neg c,(hb.at hi hj).1];simp only[aa]
    rw[(hb.at hi hj).2,(h2.at hi hj).2];simp only[aa]
    exact ⟨_,rfl,af (by omega),fin _ ((hb.2.2 i _ hi hj).trans ⟨.inr,fun h=>h.resolve_left fun h=>c ((ha.2.2 i _ hi hj).2 h)⟩)⟩) (fun s hI=>by
   obtain ⟨M,k⟩:=s
   have h1:k=((i+(n - i):Nat):Int):=hI.1
   subst h1
   unfold j2
   simp only
   rw[if_neg (by simp;omega)]) (s:=(M,(i:Int))) ⟨rfl,h2.ext fun a b _ _=>⟨fun h=>⟨.inl h.1,h.2⟩,fun h=>⟨h.1.elim id fun ⟨h1,h2⟩=>(by have:=h.2.elim (tr a b) (tq a b);omega),h.2⟩⟩⟩ (fW (by omega))
  unfold j3
  simp only
  rw[if_pos (decide_eq_true (by omega))]
  rw[ai e2]
  exact ⟨_,rfl,af (by omega),g2.ext fun a b _ hb=>⟨fun h=>⟨by omega,h.2⟩,fun h=>⟨by omega,h.2⟩⟩⟩) (fun s hI=>by
  obtain ⟨M,k⟩:=s
  have h1:k=(n:Int):=hI.1
  subst h1
  unfold j3
  simp only
  rw[if_neg (by simp;omega)]) (s:=(M0,0)) ⟨rfl,k0.ext fun a b _ _=>⟨fun h=>(by cases h.2),fun h=>by omega⟩⟩ (fW (by omega))
 rw[ai e]
 exact ⟨_,rfl,h2.ext fun a b ha _=>⟨fun h=>h.2,fun h=>⟨ha,h⟩⟩⟩
theorem Xx {n:Nat} (hn:n<=100) {r R q:Nat->Nat->Prop} {A B M:List (List Bool)} (ha:MtR n r A) (hb:MtR n q B) (hM:MtR n R M) {i k j:Nat} (hi:i<n) (hk:k<n) (hj:j<n) (hr:r i k) (Z:List (List Bool)) :
  ∃v:Bool,(v=true↔R i j\/q k j)/\cz A B ((i:Int),Z) ((k:Int),Z) ((j:Int),M)=some (.nxt (((j+1:Nat):Int),M.set (i:Int).toNat ((nth M (i:Int)).set (j:Int).toNat v))):=by
 have hl:=hM.1
 have hla:=ha.1
 have c1:chk ((i:Int)<((M.set (i:Int).toNat ([] :List Bool)).length:Int))=some ():=if_pos (by simp;omega)
 unfold cz
 simp only
 rw[if_pos (decide_eq_true (by omega)),(ha.at hi hk).1];simp only[aa]
 rw[(ha.at hi hk).2];simp only[aa]
 rw[if_pos ((ha.2.2 i k hi hk).2 hr),(hM.at hi hj).1];simp only[aa]
 rw[c1];simp only[aa]
 simp only[Xv,aa]
 rw[(hM.at hi hj).2];simp only[aa]
 rw[af (show j<9223372036854775807 by have:=hi;omega)]
 by_cases c:nth (nth M (i:Int)) (j:Int)=true
 ·rw[if_pos c]
  exact ⟨true,⟨fun _=>.inl ((hM.2.2 i j hi hj).1 c),fun _=>rfl⟩,rfl⟩
 ·rw[if_neg c,(hb.at hk hj).1];simp only[aa]
  rw[(hb.at hk hj).2]
  exact ⟨_,(hb.2.2 k j hk hj).trans ⟨.inr,fun h=>h.resolve_left fun h=>c ((hM.2.2 i j hi hj).2 h)⟩,rfl⟩
theorem Q5 {n:Nat} (hn:n<=100) {r q:Nat->Nat->Prop} {A B:List (List Bool)} (ha:MtR n r A) (hb:MtR n q B) (tr: ∀a b,r a b->a<=b) (tq: ∀a b,q a b->a<=b): ∃M,jH A B=some M/\MtR n (fun i j=> ∃k,k<n/\r i k/\q k j) M:=by
 obtain ⟨M0,e0,k0⟩:=H4 hn false
 have hal:=ha.1
 unfold jH
 rw[ha.1,e0];simp only[aa]
 obtain ⟨s,e,h1,h2⟩:=a7 (f:=jZ A B) (fun i s=>s.1=(i:Int)/\MtR n (fun a b=>a<i/\ ∃k,k<n/\r a k/\q k b) s.2) n (fun i s hi hI=>by
  obtain ⟨x,M⟩:=s
  obtain ⟨h1,h2⟩:=hI
  have h1:x=(i:Int):=h1
  subst h1
  obtain ⟨s2,e2,g1,g2⟩:=a7 (f:=gY A B ((i:Int),M)) (fun u s=>s.1=((i+u:Nat):Int)/\MtR n (fun a b=>(a<i/\ ∃k,k<n/\r a k/\q k b)\/(a=i/\ ∃k',k'<i+u/\r i k'/\q k' b)) s.2) (n - i) (fun u s hu hI=>by
   obtain ⟨x,M2⟩:=s
   obtain ⟨h1,h2⟩:=hI
   have h1:x=((i+u:Nat):Int):=h1
   subst h1
   have hk:i+u<n:=by omega
   generalize hkk:i+u=k at hk h2⊢
   by_cases c:r i k
   ·obtain ⟨s3,e3,f1,f2⟩:=a7 (f:=cz A B ((i:Int),M) ((k:Int),M2)) (fun v s=>s.1=((k+v:Nat):Int)/\MtR n (fun a b=>((a<i/\ ∃k,k<n/\r a k/\q k b)\/(a=i/\ ∃k',k'<k/\r i k'/\q k' b))\/(a=i/\b<k+v/\q k b)) s.2) (n - k) (fun v s hv hI=>by
     obtain ⟨x,M3⟩:=s
     obtain ⟨h1,h3⟩:=hI
     have h1:x=((k+v:Nat):Int):=h1
     subst h1
     have hj:k+v<n:=by omega
     obtain ⟨z,hz,ez⟩:=Xx hn ha hb h3 hi hk hj c M
     refine ⟨_,(show cz A B ((i:Int),M) ((k:Int),M2) (((k+v:Nat):Int),M3)=_ from ez),rfl,(h3.put hi hj hz).ext fun a b _ _=>?_⟩
     by_cases d:a=i/\b=k+v
     ·rw[if_pos d,d.1,d.2]
      exact ⟨fun h=>h.elim (fun h=>h.elim .inl fun h=>.inr ⟨rfl,by omega,h.2.2⟩) fun h=>.inr ⟨rfl,by omega,h⟩,fun h=>h.elim (fun h=>.inl (.inl h)) fun h=>.inr h.2.2⟩
     ·rw[if_neg d]
      exact ⟨fun h=>h.imp id fun h=>⟨h.1,by omega,h.2.2⟩,fun h=>h.imp id fun h=>⟨h.1,by have:=h.1;have:=h.2.1;omega,h.2.2⟩⟩) (fun s hI=>by
     obtain ⟨x,M3⟩:=s
     have h1:x=((k+(n - k):Nat):Int):=hI.1
     subst h1
     unfold cz
     simp only
     rw[if_neg (by simp;omega)]) (s:=((k:Int),M2)) ⟨rfl,h2.ext fun a b _ _=>⟨.inl,fun h=>h.resolve_right fun h=>by have:=tq _ _ h.2.2;omega⟩⟩ (fW (by omega))
    unfold gY
    simp only
    rw[if_pos (decide_eq_true (by omega)),ai e3]
    refine ⟨_,rfl,by rw[af (by omega)];omega,f2.ext fun a b _ hb'=>⟨fun h=>?_,fun h=>?_⟩⟩
    ·rcases h with (h | ⟨p1,k',p2,p3⟩) | ⟨p1,-,p3⟩
     ·exact .inl h
     ·exact .inr ⟨p1,k',by omega,p3⟩
     ·exact .inr ⟨p1,k,by omega,c,p3⟩
    ·rcases h with h | ⟨p1,k',p2,p3⟩
     ·exact .inl (.inl h)
     ·by_cases d:k'=k
      ·subst d;exact .inr ⟨p1,by omega,p3.2⟩
      ·exact .inl (.inr ⟨p1,k',by omega,p3⟩)
   ·have e3:ax (cz A B ((i:Int),M) ((k:Int),M2)) aR ((k:Int),M2)=some (.brk ((k:Int),M2)):=by
     refine aP (f:=cz A B ((i:Int),M) ((k:Int),M2)) (fun _=>((k:Int),M2)) 0 (fun i hi=>absurd hi (Nat.not_lt_zero _)) ?_ (fW (by omega))
     unfold cz
     simp only
     rw[if_pos (decide_eq_true (by omega)),(ha.at hi hk).1];simp only[aa]
     rw[(ha.at hi hk).2];simp only[aa]
     rw[if_neg (fun h=>c ((ha.2.2 i k hi hk).1 h))]
    unfold gY
    simp only
    rw[if_pos (decide_eq_true (by omega)),ai e3]
    refine ⟨_,rfl,by rw[af (by omega)];omega,h2.ext fun a b _ _=>⟨fun h=>h.imp id fun ⟨p1,k',p2,p3⟩=>⟨p1,k',by omega,p3⟩,fun h=>h.imp id fun ⟨p1,k',p2,p3⟩=>⟨p1,k',?_,p3⟩⟩⟩
    by_cases d:k'=k
    ·subst d;exact absurd p3.1 c
    ·omega) (fun s hI=>by
   obtain ⟨x,M2⟩:=s
   have h1:x=((i+(n - i):Nat):Int):=hI.1
   subst h1
   unfold gY
   simp only
   rw[if_neg (by simp;omega)]) (s:=((i:Int),M)) ⟨rfl,h2.ext fun a b _ _=>⟨.inl,fun h=>h.resolve_right fun ⟨_,k',p,p2⟩=>by have:=tr _ _ p2.1;omega⟩⟩ (fW (by omega))
  unfold jZ
  simp only
  rw[if_pos (decide_eq_true (by omega)),ai e2]
  exact ⟨_,rfl,af (by omega),g2.ext fun a b _ _=>⟨fun h=>h.elim (fun h=>⟨by omega,h.2⟩) fun ⟨p1,k',p2,p3⟩=>⟨by omega,by rw[p1];exact ⟨k',by omega,p3⟩⟩,fun ⟨p1,h⟩=>by
   by_cases d:a=i
   ·subst d
    obtain ⟨k',q1,q2⟩:=h
    exact .inr ⟨rfl,k',by omega,q2⟩
   ·exact .inl ⟨by omega,h⟩⟩⟩) (fun s hI=>by
  obtain ⟨x,M⟩:=s
  have h1:x=(n:Int):=hI.1
  subst h1
  unfold jZ
  simp only
  rw[if_neg (by simp;omega)]) (s:=(0,M0)) ⟨rfl,k0.ext fun a b _ _=>⟨fun h=>(by cases h.2),fun h=>by omega⟩⟩ (fW (by omega))
 rw[ai e]
 exact ⟨_,rfl,h2.ext fun a b ha _=>⟨fun h=>h.2,fun h=>⟨ha,h⟩⟩⟩
end D
namespace D
open Go.RowKit
theorem Np {t:Tok} (h:t.1=1):LX (.node t [])=fun _=>False:=by
 funext w;rw[LX0];apply propext;constructor
 ·rintro (⟨k,-⟩ | ⟨k,-⟩) <;> omega
 ·exact False.elim
theorem H6 {t:Tok} (h:t.1=2):LX (.node t [])=fun w=>w= []:=by
 funext w;rw[LX0];apply propext;constructor
 ·rintro (⟨-,k⟩ | ⟨k,-⟩)
  ·exact k
  ·omega
 ·intro k;exact .inl ⟨h,k⟩
theorem Es {t:Tok} (h:t.1=3):LX (.node t [])=fun w=>w= [t.2.1.toNat]:=by
 funext w;rw[LX0];apply propext;constructor
 ·rintro (⟨k,-⟩ | ⟨-,k⟩)
  ·omega
  ·exact k
 ·intro k;exact .inr ⟨h,k⟩
theorem Et {t:Tok} {a b:Tr Tok} (h:t.1=4):LX (.node t [a,b])=tO (LX a) (LX b):=by
 funext w;rw[LX2];apply propext;constructor
 ·rintro (⟨-,k⟩ | ⟨k,-⟩)
  ·exact k
  ·omega
 ·intro k;exact .inl ⟨h,k⟩
theorem H7 {t:Tok} {a b:Tr Tok} (h:t.1=5):LX (.node t [a,b])=fun w=>LX a w\/LX b w:=by
 funext w;rw[LX2];apply propext;constructor
 ·rintro (⟨k,-⟩ | ⟨-,k⟩)
  ·omega
  ·exact k
 ·intro k;exact .inr ⟨h,k⟩
theorem Nq {t:Tok} {a:Tr Tok} (h:t.1=6):LX (.node t [a])=zi (LX a):=by
 funext w;rw[LX1];apply propext;constructor
 ·rintro (⟨-,k⟩ | ⟨k,-⟩)
  ·exact k
  ·omega
 ·intro k;exact .inl ⟨h,k⟩
def YP (A:Lg) (low high:Int):Lg:=fun w=> ∃n:Nat,low<=(n:Int)/\(n:Int)<=high/\zh A n w
theorem Eu {t:Tok} {a:Tr Tok} (h:t.1=7):LX (.node t [a])=YP (LX a) t.2.2.1 t.2.2.2:=by
 funext w;rw[LX1];apply propext;constructor
 ·rintro (⟨k,-⟩ | ⟨-,k⟩)
  ·omega
  ·exact k
 ·intro k;exact .inr ⟨h,k⟩
def SqOk (w:List Nat) (A:Lg) (M:List (List Bool)):Prop:=MtR (w.length+1) (SqL w A) M
theorem SqOk.one {w:List Nat} {M:List (List Bool)} (h:MtR (w.length+1) (fun i j=>i=j/\true=true) M):SqOk w (fun u=>u= []) M:=h.ext fun i j _ hj=>⟨fun h=>(SqL.nil hj).2 h.1,fun h=>⟨(SqL.nil hj).1 h,rfl⟩⟩
theorem SqOk.zero {w:List Nat} {M:List (List Bool)} (h:MtR (w.length+1) (fun i j=>i=j/\false=true) M):SqOk w (fun _=>False) M:=h.ext fun i j _ _=>⟨fun h=>(by cases h.2),fun h=>h.2.elim⟩
theorem SqOk.cat {w:List Nat} {A B:Lg} {M:List (List Bool)} (h:MtR (w.length+1) (fun i j=> ∃k,k<w.length+1/\SqL w A i k/\SqL w B k j) M):SqOk w (tO A B) M:=h.ext fun i j _ hj=>(SqL.cat hj).symm
theorem SqOk.or {w:List Nat} {A B:Lg} {M:List (List Bool)} (h:MtR (w.length+1) (fun i j=>SqL w A i j\/SqL w B i j) M):SqOk w (fun u=>A u\/B u) M:=h.ext fun i j _ _=>⟨fun h=>h.elim (fun h=>⟨h.1,.inl h.2⟩) fun h=>⟨h.1,.inr h.2⟩,fun h=>h.2.imp (fun k=>⟨h.1,k⟩) fun k=>⟨h.1,k⟩⟩
theorem SqOk.turn {w:List Nat} {A B:Lg} {M:List (List Bool)} (h:SqOk w A M) (e: ∀u,u.length<=w.length->(A u↔B u)):SqOk w B M:=h.ext fun i j _ hj=>⟨fun k=>⟨k.1,(e _ (by rw[wg (by omega)];omega)).1 k.2⟩,fun k=>⟨k.1,(e _ (by rw[wg (by omega)];omega)).2 k.2⟩⟩
theorem H8 {w:List Int} (hw: ∀k∈w,0<=k) (hl:w.length<=50) {c:Int} (hc:0<=c) {M:List (List Bool)} (h:MtR (w.length+1) (fun i j=>i<w.length/\j=i+1/\nth w (i:Int)=c) M):SqOk (w.map Int.toNat) (fun u=>u= [c.toNat]) M:=by
 unfold SqOk
 rw[List.length_map]
 refine h.ext fun i j _ hj=>?_
 rw[SqL.letter (by rw[List.length_map];exact hj)]
 constructor
 ·rintro ⟨h1,h2,h3⟩
  refine ⟨h2,?_⟩
  rw[List.getElem?_map,List.getElem?_eq_getElem h1,<-br h1,h3];rfl
 ·rintro ⟨h1,h2⟩
  have hi:i<w.length:=by omega
  refine ⟨hi,h1,?_⟩
  rw[List.getElem?_map,List.getElem?_eq_getElem hi,<-br hi] at h2
  have:=hw _ (cO (xs:=w) (i:=(i:Int)) (by omega) (by omega))
  have h2:(nth w (i:Int)).toNat=c.toNat:=by simpa using h2
  omega
def H9 (A:Lg) (low:Int) (k:Nat):Lg:=fun u=> ∃n:Nat,n<k/\low<=(n:Int)/\zh A n u
theorem zk {A:Lg} {low:Int} :H9 A low 0=fun _=>False:=by
 funext u;apply propext;exact ⟨fun ⟨n,h,_⟩=>by omega,False.elim⟩
theorem CB {A:Lg} {low:Int} {k:Nat} (h:low<=(k:Int)):H9 A low (k+1)=fun u=>H9 A low k u\/zh A k u:=by
 funext u;apply propext;constructor
 ·rintro ⟨n,h1,h2,h3⟩
  by_cases c:n=k
  ·subst c;exact .inr h3
  ·exact .inl ⟨n,by omega,h2,h3⟩
 ·rintro (⟨n,h1,h2,h3⟩ | h3)
  ·exact ⟨n,by omega,h2,h3⟩
  ·exact ⟨k,by omega,h,h3⟩
theorem Nr {A:Lg} {low:Int} {k:Nat} (h: ¬low<=(k:Int)):H9 A low (k+1)=H9 A low k:=by
 funext u;apply propext;constructor
 ·rintro ⟨n,h1,h2,h3⟩
  by_cases c:n=k
  ·subst c;exact absurd h2 h
  ·exact ⟨n,by omega,h2,h3⟩
 ·rintro ⟨n,h1,h2,h3⟩
  exact ⟨n,by omega,h2,h3⟩
theorem CC {A:Lg} {low high:Int} {k:Nat} (h:(k:Int)=high+1):H9 A low k=YP A low high:=by
 funext u;apply propext;constructor
 ·rintro ⟨n,h1,h2,h3⟩;exact ⟨n,h2,by omega,h3⟩
 ·rintro ⟨n,h1,h2,h3⟩;exact ⟨n,by omega,h1,h3⟩
theorem Ev {A:Lg} {n:Nat} {u:List Nat} (h:u.length<=n):H9 A 0 (n+1) u↔zi A u:=by
 rw[JS h]
 constructor
 ·rintro ⟨j,h1,-,h3⟩;exact ⟨j,by omega,h3⟩
 ·rintro ⟨j,h1,h3⟩;exact ⟨j,by omega,by omega,h3⟩
section
variable {w:List Int} (hl:w.length<=50) (hw: ∀k∈w,0<=k)
include hl
theorem Vg {A B:Lg} {M N:List (List Bool)} (ha:SqOk (w.map Int.toNat) A M) (hb:SqOk (w.map Int.toNat) B N): ∃Z,kF M N=some Z/\SqOk (w.map Int.toNat) (tO A B) Z:=by
 obtain ⟨Z,e,h⟩:=Q3 (by rw[List.length_map];omega) ha hb
 exact ⟨Z,e,SqOk.cat h⟩
theorem Zu {A B:Lg} {M N:List (List Bool)} (ha:SqOk (w.map Int.toNat) A M) (hb:SqOk (w.map Int.toNat) B N): ∃Z,kG M N=some Z/\SqOk (w.map Int.toNat) (fun u=>A u\/B u) Z:=by
 obtain ⟨Z,e,h⟩:=Q2 (by rw[List.length_map];omega) ha hb
 exact ⟨Z,e,SqOk.or h⟩
theorem Xy {A B:Lg} {M N:List (List Bool)} (ha:SqOk (w.map Int.toNat) A M) (hb:SqOk (w.map Int.toNat) B N): ∃Z,jH M N=some Z/\SqOk (w.map Int.toNat) (tO A B) Z:=by
 obtain ⟨Z,e,h⟩:=Q5 (by rw[List.length_map];omega) ha hb (fun _ _ h=>h.1) (fun _ _ h=>h.1)
 exact ⟨Z,e,SqOk.cat h⟩
theorem aad {A B:Lg} {M N:List (List Bool)} (ha:SqOk (w.map Int.toNat) A M) (hb:SqOk (w.map Int.toNat) B N): ∃Z,jI M N=some Z/\SqOk (w.map Int.toNat) (fun u=>A u\/B u) Z:=by
 obtain ⟨Z,e,h⟩:=Q4 (by rw[List.length_map];omega) ha hb (fun _ _ h=>h.1) (fun _ _ h=>h.1)
 exact ⟨Z,e,SqOk.or h⟩
end
theorem Q6 {A:Lg} {k:Nat} :(fun u=>H9 A 0 (k+1) u\/tO (H9 A 0 (k+1)) A u)=H9 A 0 (k+1+1):=by
 funext u;apply propext;constructor
 ·rintro (⟨n,h1,h2,h3⟩ | ⟨a,b,rfl,⟨n,h1,h2,h3⟩,h4⟩)
  ·exact ⟨n,by omega,h2,h3⟩
  ·exact ⟨n+1,by omega,by omega,by rw[pd];exact ⟨a,b,rfl,h3,h4⟩⟩
 ·rintro ⟨n,h1,h2,h3⟩
  match n,h1,h3 with
  | 0,_,h3=>exact .inl ⟨0,by omega,by omega,h3⟩
  | n+1,h1,h3 =>
   rw[pd] at h3
   obtain ⟨a,b,e,h3,h4⟩:=h3
   exact .inr ⟨a,b,e,⟨n,by omega,by omega,h3⟩,h4⟩
section
variable {w:List Int} (hl:w.length<=50) (hw: ∀k∈w,0<=k)
include hl
theorem Xz: ∃M,j6 (i64.wrap ((w.length:Int)+1)) false=some M/\MtR (w.length+1) (fun i j=>i=j/\false=true) M/\SqOk (w.map Int.toNat) (fun _=>False) M:=by
 obtain ⟨M,e,h⟩:=H5 (n:=w.length+1) (by omega) false
 rw[af (by omega)]
 refine ⟨M,e,h,?_⟩
 have h':MtR ((w.map Int.toNat).length+1) (fun i j=>i=j/\false=true) M:=by rw[List.length_map];exact h
 exact SqOk.zero h'
theorem Zv: ∃M,j6 (i64.wrap ((w.length:Int)+1)) true=some M/\SqOk (w.map Int.toNat) (fun u=>u= []) M:=by
 obtain ⟨M,e,h⟩:=H5 (n:=w.length+1) (by omega) true
 rw[af (by omega)]
 refine ⟨M,e,?_⟩
 have h':MtR ((w.map Int.toNat).length+1) (fun i j=>i=j/\true=true) M:=by rw[List.length_map];exact h
 exact SqOk.one h'
include hw in
theorem Q7 {t:Tok} (hc:0<=t.2.1) {mrec:Tr Tok->List Int->Option (List (List Bool))} {M0:List (List Bool)} (h0:MtR (w.length+1) (fun i j=>i=j/\false=true) M0): ∃s,ax (fL mrec (.node t []) w) aR (0,M0)=some (.brk s)/\SqOk (w.map Int.toNat) (fun u=>u= [t.2.1.toNat]) s.2:=by
 obtain ⟨s,e,h1,h2⟩:=a7 (f:=fL mrec (.node t []) w) (fun i s=>s.1=(i:Int)/\MtR (w.length+1) (fun a b=>a<i/\b=a+1/\nth w (a:Int)=t.2.1) s.2) w.length (fun i s hi hI=>by
  obtain ⟨x,M⟩:=s
  obtain ⟨h1,h2⟩:=hI
  have h1:x=(i:Int):=h1
  subst h1
  have hi1:i<w.length+1:=by omega
  have hj1:i+1<w.length+1:=by omega
  unfold fL
  simp only
  rw[if_pos (decide_eq_true (by omega)),aG (xs:=w) (by omega) (by omega),(h2.at hi1 hj1).1];simp only[aa]
  rw[jo,af (by omega)];simp only[aa]
  rw[(h2.at hi1 hj1).2];simp only[aa]
  refine ⟨_,rfl,rfl,(h2.put hi1 hj1 (v:=nth w (i:Int)==t.2.1) (p:=nth w (i:Int)=t.2.1) (by simp)).ext fun a b _ _=>?_⟩
  by_cases d:a=i/\b=i+1
  ·rw[if_pos d,d.1,d.2];exact ⟨fun h=>⟨by omega,rfl,h⟩,fun h=>h.2.2⟩
  ·rw[if_neg d]
   exact ⟨fun h=>⟨by omega,h.2⟩,fun h=>⟨by have:=h.1;have:=h.2.1;omega,h.2⟩⟩) (fun s hI=>by
  obtain ⟨x,M⟩:=s
  have h1:x=(w.length:Int):=hI.1
  subst h1
  unfold fL
  simp) (s:=(0,M0)) ⟨rfl,h0.ext fun a b _ _=>⟨fun h=>(by cases h.2),fun h=>by omega⟩⟩ (fW (by omega))
 exact ⟨s,e,H8 hw hl hc h2⟩
theorem XA {A:Lg} {mrec:Tr Tok->List Int->Option (List (List Bool))} {S I:List (List Bool)} (hS:SqOk (w.map Int.toNat) A S) (hI:SqOk (w.map Int.toNat) (fun u=>u= []) I): ∃s,ax (fM mrec w S) aR (I,0)=some (.brk s)/\SqOk (w.map Int.toNat) (zi A) s.1:=by
 obtain ⟨s,e,h1,h2⟩:=a7 (f:=fM mrec w S) (fun k s=>s.2=(k:Int)/\SqOk (w.map Int.toNat) (H9 A 0 (k+1)) s.1) (w.length+1) (fun k s hk hI=>by
  obtain ⟨M,x⟩:=s
  obtain ⟨h1,h2⟩:=hI
  have h1:x=(k:Int):=h1
  subst h1
  obtain ⟨Z,e1,g1⟩:=Vg hl h2 hS
  obtain ⟨Y,e2,g2⟩:=Zu hl h2 g1
  unfold fM
  simp only
  rw[af (show w.length<9223372036854775807 by omega),if_pos (decide_eq_true (by omega)),e1];simp only[aa]
  rw[e2];simp only[aa]
  exact ⟨_,rfl,af (by omega),by rw[<-Q6];exact g2⟩) (fun s hI=>by
  obtain ⟨M,x⟩:=s
  have h1:x=((w.length+1:Nat):Int):=hI.1
  subst h1
  unfold fM
  simp only
  rw[af (show w.length<9223372036854775807 by omega),if_neg (by simp)]) (s:=(I,0)) ⟨rfl,by
   have e:H9 A 0 (0+1)=fun u=>u= []:=by
    rw[CB (by omega),zk]
    funext u;apply propext
    exact ⟨fun h=>h.resolve_left id,.inr⟩
   rw[e];exact hI⟩ (fW (by omega))
 exact ⟨s,e,h2.turn fun u hu=>Ev (by rw[List.length_map] at hu;omega)⟩
theorem Zw {A:Lg} {mrec:Tr Tok->List Int->Option (List (List Bool))} {t:Tok} {a:Tr Tok} (hh:1<=t.2.2.2/\t.2.2.2<=3) {S I O:List (List Bool)} (hS:SqOk (w.map Int.toNat) A S) (hI:SqOk (w.map Int.toNat) (fun u=>u= []) I) (hO:SqOk (w.map Int.toNat) (fun _=>False) O): ∃s,ax (fN mrec (.node t [a]) S) aR (O,I,0)=some (.brk s)/\SqOk (w.map Int.toNat) (YP A t.2.2.1 t.2.2.2) s.1:=by
 obtain ⟨s,e,h1,h2,-⟩:=a7 (f:=fN mrec (.node t [a]) S) (fun k s=>s.2.2=(k:Int)/\SqOk (w.map Int.toNat) (H9 A t.2.2.1 k) s.1/\SqOk (w.map Int.toNat) (zh A k) s.2.1) (t.2.2.2.toNat+1) (fun k s hk hI=>by
  obtain ⟨M,N,x⟩:=s
  obtain ⟨h1,h2,h3⟩:=hI
  have h1:x=(k:Int):=h1
  subst h1
  obtain ⟨Z,e1,g1⟩:=Vg hl h3 hS
  unfold fN
  simp only[jo,aa]
  rw[if_pos (decide_eq_true (by omega))]
  have hpow:SqOk (w.map Int.toNat) (zh A (k+1)) Z:=by rw[pd];exact g1
  by_cases c:t.2.2.1<=(k:Int)
  ·obtain ⟨Y,e2,g2⟩:=Zu hl h2 h3
   rw[if_pos (decide_eq_true c),e2];simp only[aa]
   rw[e1];simp only[aa]
   exact ⟨_,rfl,af (by omega),by rw[CB c];exact g2,hpow⟩
  ·rw[if_neg (by simpa using c)];simp only[aa]
   rw[e1];simp only[aa]
   exact ⟨_,rfl,af (by omega),by rw[Nr c];exact h2,hpow⟩) (fun s hI=>by
  obtain ⟨M,N,x⟩:=s
  have h1:x=((t.2.2.2.toNat+1:Nat):Int):=hI.1
  subst h1
  unfold fN
  simp only[jo,aa]
  rw[if_neg (by simp;omega)]) (s:=(O,I,0)) ⟨rfl,by rw[zk];exact hO,hI⟩ (fW (by omega))
 exact ⟨s,e,by rw[<-CC (k:=t.2.2.2.toNat+1) (by omega)];exact h2⟩
include hw in
theorem Vh {x:Tr Tok} (h:WT x): ∀m,(flat x).length<=m-> ∃M,aY m x w=some M/\SqOk (w.map Int.toNat) (LX x) M:=by
 obtain ⟨M0,e0,k0,z0⟩:=Xz hl
 obtain ⟨M1,e1,k1⟩:=Zv hl
 refine WT.ind (p:=fun x=> ∀m,(flat x).length<=m-> ∃M,aY m x w=some M/\SqOk (w.map Int.toNat) (LX x) M) ?_ ?_ ?_ h
 ·intro t e m hm
  rw[rv] at hm
  match m,hm with
  | m+1,_ =>
   rw[aY,e0];simp only[aa,jo]
   rcases dY (t:=t) (by omega) with ⟨k,-⟩ | ⟨k,-⟩ | ⟨-,k⟩
   ·omega
   ·omega
   ·rcases k with k | k | k
    ·rw[Np k]
     simp[k]
     exact z0
    ·rw[H6 k,if_pos (by simp[k]),e1]
     exact ⟨_,rfl,k1⟩
    ·have hc:0<=t.2.1:=by
      unfold ar at e
      rw[if_neg (by omega),if_pos k] at e
      split at e
      ·rename_i h;exact h.1.1
      ·omega
     obtain ⟨s,es,hs⟩:=Q7 hl hw hc (mrec:=aY m) k0
     rw[Es k,if_neg (by simp[k]),if_pos (by simp[k]),ai es]
     exact ⟨_,rfl,hs⟩
 ·intro t a e wa ih m hm
  rw[pb,al,List.length_singleton] at hm
  match m,hm with
  | m+1,hm =>
   obtain ⟨S,eS,hS⟩:=ih m (by omega)
   have g0:aK [a] 0=some a:=rfl
   rw[aY,e0];simp only[aa,jo,g0]
   rcases Ep e with ⟨-,k⟩ | ⟨-,-,k⟩
   ·obtain ⟨s,es,hs⟩:=XA hl (mrec:=aY m) hS k1
    rw[Nq k,if_neg (by simp[k]),if_neg (by simp[k]),if_neg (by simp[k]),if_neg (by simp[k]),if_pos (by simp[k]),e1];simp only[aa]
    rw[eS];simp only[aa]
    rw[ai es]
    exact ⟨_,rfl,hs⟩
   ·obtain ⟨s,es,hs⟩:=Zw hl (mrec:=aY m) (a:=a) (qj (show 0<=ar t by omega) k).2 hS k1 z0
    rw[Eu k,if_neg (by simp[k]),if_neg (by simp[k]),if_neg (by simp[k]),if_neg (by simp[k]),if_neg (by simp[k]),if_pos (by simp[k]),eS];simp only[aa]
    rw[e1];simp only[aa]
    rw[ai es]
    exact ⟨_,rfl,hs⟩
 ·intro t a b e wa wb iha ihb m hm
  rw[kl,al,al,List.length_singleton] at hm
  match m,hm with
  | m+1,hm =>
   obtain ⟨S,eS,hS⟩:=iha m (by omega)
   obtain ⟨T,eT,hT⟩:=ihb m (by omega)
   have g0:aK [a,b] 0=some a:=rfl
   have g1:aK [a,b] 1=some b:=rfl
   rw[aY,e0];simp only[aa,jo,g0,g1]
   rcases dY (t:=t) (by omega) with ⟨-,k⟩ | ⟨k,-⟩ | ⟨k,-⟩
   ·rcases k with k | k
    ·obtain ⟨Z,eZ,hZ⟩:=Vg hl hS hT
     rw[Et k,if_neg (by simp[k]),if_neg (by simp[k]),if_pos (by simp[k]),eS];simp only[aa]
     rw[eT];simp only[aa]
     rw[eZ]
     exact ⟨_,rfl,hZ⟩
    ·obtain ⟨Z,eZ,hZ⟩:=Zu hl hS hT
     rw[H7 k,if_neg (by simp[k]),if_neg (by simp[k]),if_neg (by simp[k]),if_pos (by simp[k]),eS];simp only[aa]
     rw[eT];simp only[aa]
     rw[eZ]
     exact ⟨_,rfl,hZ⟩
   ·omega
   ·omega
theorem Ns {x:Tr Tok} (h:WT x) (hx:(flat x).length<=1000000) (hw: ∀k∈w,0<=k): ∃b,eQ x w=some b/\(b=true↔LX x (w.map Int.toNat)):=by
 obtain ⟨M,e,hM⟩:=Vh hl hw h bP (by have:=fU;omega)
 unfold eQ
 rw[e];simp only[aa]
 have hM':MtR (w.length+1) (SqL (w.map Int.toNat) (LX x)) M:=by
  have:=hM
  unfold SqOk at this
  rw[List.length_map] at this
  exact this
 have:=hM'.at (i:=0) (j:=w.length) (by omega) (by omega)
 have a1:aK M 0=some (nth M ((0:Nat):Int)):=this.1
 rw[a1];simp only[aa]
 rw[this.2]
 refine ⟨_,rfl,(hM'.2.2 0 w.length (by omega) (by omega)).trans ?_⟩
 unfold SqL
 have e2:seg (w.map Int.toNat) 0 w.length=w.map Int.toNat:=by
  have:=Nm (w.map Int.toNat)
  rwa [List.length_map] at this
 rw[e2]
 exact ⟨fun h=>h.2,fun h=>⟨Nat.zero_le _,h⟩⟩
end
end D
namespace D
open Go.RowKit
theorem Vi {R S:Type} {f:S->Option (Out R S)} {s s':S} (h:f s=some (.nxt s')) (m:Nat):ax f (m+1) s=ax f m s':=by rw[ax,h]
section
variable {w:List Int} (hl:w.length<=50) (hw: ∀k∈w,0<=k)
include hl
theorem SC: ∃M,eO (i64.wrap ((w.length:Int)+1)) false=some M/\MtR (w.length+1) (fun i j=>i=j/\false=true) M/\SqOk (w.map Int.toNat) (fun _=>False) M:=by
 obtain ⟨M,e,h⟩:=H4 (n:=w.length+1) (by omega) false
 rw[af (by omega)]
 refine ⟨M,e,h,?_⟩
 have h':MtR ((w.map Int.toNat).length+1) (fun i j=>i=j/\false=true) M:=by rw[List.length_map];exact h
 exact SqOk.zero h'
theorem XB: ∃M,eO (i64.wrap ((w.length:Int)+1)) true=some M/\SqOk (w.map Int.toNat) (fun u=>u= []) M:=by
 obtain ⟨M,e,h⟩:=H4 (n:=w.length+1) (by omega) true
 rw[af (by omega)]
 refine ⟨M,e,?_⟩
 have h':MtR ((w.map Int.toNat).length+1) (fun i j=>i=j/\true=true) M:=by rw[List.length_map];exact h
 exact SqOk.one h'
include hw in
theorem Q8 {t:Tok} (hc:0<=t.2.1) {M0:List (List Bool)} (h0:MtR (w.length+1) (fun i j=>i=j/\false=true) M0): ∃s,ax (jg w t) aR (0,M0)=some (.brk s)/\SqOk (w.map Int.toNat) (fun u=>u= [t.2.1.toNat]) s.2:=by
 obtain ⟨s,e,h1,h2⟩:=a7 (f:=jg w t) (fun i s=>s.1=(i:Int)/\MtR (w.length+1) (fun a b=>a<i/\b=a+1/\nth w (a:Int)=t.2.1) s.2) w.length (fun i s hi hI=>by
  obtain ⟨x,M⟩:=s
  obtain ⟨h1,h2⟩:=hI
  have h1:x=(i:Int):=h1
  subst h1
  have hi1:i<w.length+1:=by omega
  have hj1:i+1<w.length+1:=by omega
  unfold jg
  simp only
  rw[if_pos (decide_eq_true (by omega)),(h2.at hi1 hj1).1];simp only[aa]
  rw[aG (xs:=w) (by omega) (by omega),af (by omega)];simp only[aa]
  rw[(h2.at hi1 hj1).2];simp only[aa]
  refine ⟨_,rfl,rfl,(h2.put hi1 hj1 (v:=nth w (i:Int)==t.2.1) (p:=nth w (i:Int)=t.2.1) (by simp)).ext fun a b _ _=>?_⟩
  by_cases d:a=i/\b=i+1
  ·rw[if_pos d,d.1,d.2];exact ⟨fun h=>⟨by omega,rfl,h⟩,fun h=>h.2.2⟩
  ·rw[if_neg d]
   exact ⟨fun h=>⟨by omega,h.2⟩,fun h=>⟨by have:=h.1;have:=h.2.1;omega,h.2⟩⟩) (fun s hI=>by
  obtain ⟨x,M⟩:=s
  have h1:x=(w.length:Int):=hI.1
  subst h1
  unfold jg
  simp) (s:=(0,M0)) ⟨rfl,h0.ext fun a b _ _=>⟨fun h=>(by cases h.2),fun h=>by omega⟩⟩ (fW (by omega))
 exact ⟨s,e,H8 hw hl hc h2⟩
theorem XC {A:Lg} {low high:Int} (hh:0<=high/\high<=50) {S:List (List Bool)} (hS:SqOk (w.map Int.toNat) A S): ∃Z,gC S low high=some Z/\SqOk (w.map Int.toNat) (YP A low high) Z:=by
 have hlen:(S.length:Int)=i64.wrap ((w.length:Int)+1):=by
  have:=hS.1
  rw[List.length_map] at this
  rw[af (by omega),this]
 obtain ⟨O,e0,-,hO⟩:=SC hl
 obtain ⟨I,e1,hI⟩:=XB hl
 unfold gC
 rw[hlen,e0,e1];simp only[aa]
 obtain ⟨s,e,h1,h2,-⟩:=a7 (f:=iC S low high) (fun k s=>s.2.2=(k:Int)/\SqOk (w.map Int.toNat) (H9 A low k) s.1/\SqOk (w.map Int.toNat) (zh A k) s.2.1) (high.toNat+1) (fun k s hk hI=>by
  obtain ⟨M,N,x⟩:=s
  obtain ⟨h1,h2,h3⟩:=hI
  have h1:x=(k:Int):=h1
  subst h1
  obtain ⟨Z,e1,g1⟩:=Xy hl h3 hS
  unfold iC
  simp only
  rw[if_pos (decide_eq_true (by omega))]
  have hpow:SqOk (w.map Int.toNat) (zh A (k+1)) Z:=by rw[pd];exact g1
  by_cases c:low<=(k:Int)
  ·obtain ⟨Y,e2,g2⟩:=aad hl h2 h3
   rw[if_pos (decide_eq_true c),e2];simp only[aa]
   rw[e1];simp only[aa]
   exact ⟨_,rfl,af (by omega),by rw[CB c];exact g2,hpow⟩
  ·rw[if_neg (by simpa using c)];simp only[aa]
   rw[e1];simp only[aa]
   exact ⟨_,rfl,af (by omega),by rw[Nr c];exact h2,hpow⟩) (fun s hI=>by
  obtain ⟨M,N,x⟩:=s
  have h1:x=((high.toNat+1:Nat):Int):=hI.1
  subst h1
  unfold iC
  simp only
  rw[if_neg (by simp;omega)]) (s:=(O,I,0)) ⟨rfl,by rw[zk];exact hO,hI⟩ (fW (by omega))
 rw[ai e]
 exact ⟨_,rfl,by rw[<-CC (k:=high.toNat+1) (by omega)];exact h2⟩
theorem XD {A:Lg} {S:List (List Bool)} (hS:SqOk (w.map Int.toNat) A S): ∃Z,gC S 0 (w.length:Int)=some Z/\SqOk (w.map Int.toNat) (zi A) Z:=by
 obtain ⟨Z,e,h⟩:=XC hl (low:=0) (high:=(w.length:Int)) (by omega) hS
 refine ⟨Z,e,h.turn fun u hu=>?_⟩
 rw[<-CC (k:=w.length+1) (by omega)]
 exact Ev (by rw[List.length_map] at hu;exact hu)
variable {p0:List Tok} (hp:p0.length<=1000)
include hp
theorem st0 (hw: ∀k∈w,0<=k) {t:Tok} (e:ar t=0) {S:List (List (List Bool))} {i:Nat} (hi:i<p0.length) (ht:p0[i] =t) (hS:S.length<=i): ∃M,SqOk (w.map Int.toNat) (LX (.node t [])) M/\bz p0 w (S,(i:Int))=some (.nxt (S++ [M],((i+1:Nat):Int))):=by
 obtain ⟨M0,e0,k0,z0⟩:=SC hl
 obtain ⟨M1,e1,k1⟩:=XB hl
 have hx: ∀M:List (List Bool),cP 24 S [M] =some (S++ [M]):=fun M=>aJ (by simp;omega)
 unfold bz
 simp only
 rw[if_pos (decide_eq_true (by omega)),aZ hi,ht];simp only[aa]
 rcases dY (t:=t) (by omega) with ⟨k,-⟩ | ⟨k,-⟩ | ⟨-,k⟩
 ·omega
 ·omega
 ·rcases k with k | k | k
  ·refine ⟨M0,by rw[Np k];exact z0,?_⟩
   rw[if_neg (by simp[k]),if_neg (by simp[k]),if_neg (by simp[k]),if_neg (by simp[k]),if_neg (by simp[k]),if_neg (by simp[k]),e0];simp only[aa]
   rw[hx,af (by omega)];rfl
  ·refine ⟨M1,by rw[H6 k];exact k1,?_⟩
   rw[if_pos (by simp[k]),e1];simp only[aa]
   rw[hx,af (by omega)];rfl
  ·have hc:0<=t.2.1:=by
    unfold ar at e
    rw[if_neg (by omega),if_pos k] at e
    split at e
    ·rename_i h;exact h.1.1
    ·omega
   obtain ⟨s,es,hs⟩:=Q8 hl hw hc k0
   refine ⟨s.2,by rw[Es k];exact hs,?_⟩
   rw[if_neg (by simp[k]),if_pos (by simp[k]),e0];simp only[aa]
   rw[ai es,hx,af (by omega)];rfl
theorem st1 {t:Tok} {a:Tr Tok} (e:ar t=1) {S:List (List (List Bool))} {A:List (List Bool)} (hA:SqOk (w.map Int.toNat) (LX a) A) {i:Nat} (hi:i<p0.length) (ht:p0[i] =t) (hS:S.length<=i): ∃M,SqOk (w.map Int.toNat) (LX (.node t [a])) M/\bz p0 w (S++ [A],(i:Int))=some (.nxt (S++ [M],((i+1:Nat):Int))):=by
 have hlen:((S++ [A]).length:Int)=(S.length:Int)+1:=by simp
 have hn:i64.wrap ((S.length:Int)+1 - 1)=(S.length:Int):=by rw[cZ (by omega) (by omega)];omega
 have g1:aK (S++ [A]) (S.length:Int)=some A:=by
  rw[aG (by omega) (by first | (simp;done) | (simp;omega)),br (by first | (simp;done) | (simp;omega))];simp
 unfold bz
 simp only
 rw[if_pos (decide_eq_true (by omega)),aZ hi,ht,hlen,hn,g1];simp only[aa]
 have hset: ∀Z:List (List Bool),(S++ [A]).set (S.length:Int).toNat Z=S++ [Z]:=fun Z=>by
  rw[Int.toNat_natCast,List.set_append_right _ _ (ay _),Nat.sub_self];rfl
 rcases Ep e with ⟨-,k⟩ | ⟨-,-,k⟩
 ·obtain ⟨Z,eZ,hZ⟩:=XD hl hA
  refine ⟨Z,by rw[Nq k];exact hZ,?_⟩
  rw[if_neg (by simp[k]),if_neg (by simp[k]),if_neg (by simp[k]),if_neg (by simp[k]),if_pos (by simp[k]),eZ];simp only[aa]
  rw[hset,af (by omega)]
 ·have hr:=qj (show 0<=ar t by omega) k
  obtain ⟨Z,eZ,hZ⟩:=XC hl (low:=t.2.2.1) (high:=t.2.2.2) (by omega) hA
  refine ⟨Z,by rw[Eu k];exact hZ,?_⟩
  rw[if_neg (by simp[k]),if_neg (by simp[k]),if_neg (by simp[k]),if_neg (by simp[k]),if_neg (by simp[k]),if_pos (by simp[k]),eZ];simp only[aa]
  rw[hset,af (by omega)]
theorem st2 {t:Tok} {a b:Tr Tok} (e:ar t=2) {S:List (List (List Bool))} {A B:List (List Bool)} (hA:SqOk (w.map Int.toNat) (LX a) A) (hB:SqOk (w.map Int.toNat) (LX b) B) {i:Nat} (hi:i<p0.length) (ht:p0[i] =t) (hS:S.length<=i): ∃M,SqOk (w.map Int.toNat) (LX (.node t [a,b])) M/\bz p0 w ((S++ [A])++ [B],(i:Int))=some (.nxt (S++ [M],((i+1:Nat):Int))):=by
 have hlen:(((S++ [A])++ [B]).length:Int)=(S.length:Int)+2:=by first | (simp;done) | (simp;omega)
 have hn1:i64.wrap ((S.length:Int)+2 - 1)=((S.length+1:Nat):Int):=by rw[cZ (by omega) (by omega)];omega
 have hn2:i64.wrap ((S.length:Int)+2 - 2)=(S.length:Int):=by rw[cZ (by omega) (by omega)];omega
 have g1:aK ((S++ [A])++ [B]) ((S.length+1:Nat):Int)=some B:=by
  rw[aG (by omega) (by first | (simp;done) | (simp;omega)),br (by first | (simp;done) | (simp;omega))];simp
 have g2:aK ((S++ [A])++ [B]) (S.length:Int)=some A:=by
  rw[aG (by omega) (by first | (simp;done) | (simp;omega)),br (by first | (simp;done) | (simp;omega))];simp
 have hc:chk (And (0<=(S.length:Int)) ((S.length:Int)<=(S.length:Int)+2))=some ():=if_pos ⟨by omega,by omega⟩
 have htk:((S++ [A])++ [B]).take (S.length:Int).toNat=S:=by
  rw[Int.toNat_natCast,aD,List.take_left]
 have hx: ∀M:List (List Bool),cP 24 S [M] =some (S++ [M]):=fun M=>aJ (by simp;omega)
 unfold bz
 simp only
 rw[if_pos (decide_eq_true (by omega)),aZ hi,ht,hlen,hn1,hn2,g1,g2,htk];simp only[aa]
 rw[hc]
 rcases dY (t:=t) (by omega) with ⟨-,k⟩ | ⟨k,-⟩ | ⟨k,-⟩
 ·rcases k with k | k
  ·obtain ⟨Z,eZ,hZ⟩:=Xy hl hA hB
   refine ⟨Z,by rw[Et k];exact hZ,?_⟩
   rw[if_neg (by simp[k]),if_neg (by simp[k]),if_pos (by simp[k]),eZ];simp only[aa]
   rw[hx,af (by omega)];rfl
  ·obtain ⟨Z,eZ,hZ⟩:=aad hl hA hB
   refine ⟨Z,by rw[H7 k];exact hZ,?_⟩
   rw[if_neg (by simp[k]),if_neg (by simp[k]),if_neg (by simp[k]),if_pos (by simp[k]),eZ];simp only[aa]
   rw[hx,af (by omega)];rfl
 ·omega
 ·omega
theorem Vj (hw: ∀k∈w,0<=k) {x:Tr Tok} (h:WT x): ∀(A B:List Tok) (S:List (List (List Bool))),p0=A++(flat x++B)->S.length<=A.length-> ∃M,SqOk (w.map Int.toNat) (LX x) M/\ ∀m,ax (bz p0 w) (m+(flat x).length) (S,(A.length:Int))=ax (bz p0 w) m (S++ [M],((A.length+(flat x).length:Nat):Int)):=by
 refine WT.ind (p:=fun x=> ∀(A B:List Tok) (S:List (List (List Bool))),p0=A++(flat x++B)->S.length<=A.length-> ∃M,SqOk (w.map Int.toNat) (LX x) M/\ ∀m,ax (bz p0 w) (m+(flat x).length) (S,(A.length:Int))=ax (bz p0 w) m (S++ [M],((A.length+(flat x).length:Nat):Int))) ?_ ?_ ?_ h
 ·intro t e A B S h1 h2
  rw[rv] at h1⊢
  have hi:A.length<p0.length:=by rw[h1];simp
  obtain ⟨M,hM,eM⟩:=st0 hl hp hw e hi (by simp[h1]) h2
  exact ⟨M,hM,fun m=>Vi eM m⟩
 ·intro t a e wa ih A B S h1 h2
  rw[pb] at h1⊢
  obtain ⟨Ma,ha,ea⟩:=ih A ([t] ++B) S (by rw[h1];simp) h2
  have hi:A.length+(flat a).length<p0.length:=by rw[h1];simp only[al,List.length_singleton];omega
  have hpo:=wa.pos
  obtain ⟨M,hM,eM⟩:=st1 hl hp e ha hi (by simp[h1,List.getElem_append_right]) (S:=S) (by omega)
  refine ⟨M,hM,fun m=>?_⟩
  rw[al,List.length_singleton,show m+((flat a).length+1)=(m+1)+(flat a).length by omega,ea,Vi eM m]
  rfl
 ·intro t a b e wa wb iha ihb A B S h1 h2
  rw[kl] at h1⊢
  obtain ⟨Ma,ha,ea⟩:=iha A (flat b++([t] ++B)) S (by rw[h1];simp) h2
  have hpo:=wa.pos
  obtain ⟨Mb,hb,eb⟩:=ihb (A++flat a) ([t] ++B) (S++ [Ma]) (by rw[h1];simp) (by first | (simp;done) | (simp;omega))
  have hi:A.length+(flat a).length+(flat b).length<p0.length:=by rw[h1];simp only[al,List.length_singleton];omega
  obtain ⟨M,hM,eM⟩:=st2 hl hp e ha hb hi (by simp[h1,List.getElem_append_right,Nat.add_assoc]) (S:=S) (by omega)
  refine ⟨M,hM,fun m=>?_⟩
  rw[al] at eb
  rw[al,al,List.length_singleton,show m+((flat a).length+(flat b).length+1)=((m+1)+(flat b).length)+(flat a).length by omega,ea,eb,Vi eM m]
  congr 3
  all_goals omega
end
theorem Vk {w:List Int} (hl:w.length<=50) (hw: ∀k∈w,0<=k) {x:Tr Tok} (h:WT x) (hx:(flat x).length<=1000): ∃b,mN (flat x) w=some b/\(b=true↔LX x (w.map Int.toNat)):=by
 obtain ⟨M,hM,e⟩:=Vj hl hx hw h [] [] [] (by simp) (ay _)
 obtain ⟨k,hk⟩: ∃k,aR=(k+1)+(flat x).length:=⟨aR - 1 - (flat x).length,by have:=o8 9000 (by omega);omega⟩
 have hL:ax (bz (flat x) w) aR (([] :List (List (List Bool))),0)=some (.brk ([M],((flat x).length:Int))):=by
  have e1:=e (k+1)
  rw[<-hk] at e1
  refine (show ax (bz (flat x) w) aR (([] :List (List (List Bool))),0)=_ from e1).trans ?_
  have e2:bz (flat x) w ([M],((flat x).length:Int))=some (.brk ([M],((flat x).length:Int))):=by
   unfold bz
   simp
  simp only[List.nil_append,aA,Nat.zero_add]
  rw[ax,e2]
 unfold mN
 rw[ai hL]
 have hM':MtR (w.length+1) (SqL (w.map Int.toNat) (LX x)) M:=by
  have:=hM
  unfold SqOk at this
  rw[List.length_map] at this
  exact this
 have:=hM'.at (i:=0) (j:=w.length) (by omega) (by omega)
 have a1:aK M 0=some (nth M ((0:Nat):Int)):=this.1
 have a0:aK [M] 0=some M:=rfl
 simp only[a0,a1,aa]
 rw[this.2]
 refine ⟨_,rfl,(hM'.2.2 0 w.length (by omega) (by omega)).trans ?_⟩
 unfold SqL
 have e2:seg (w.map Int.toNat) 0 w.length=w.map Int.toNat:=by
  have:=Nm (w.map Int.toNat)
  rwa [List.length_map] at this
 rw[e2]
 exact ⟨fun h=>h.2,fun h=>⟨Nat.zero_le _,h⟩⟩
end D
namespace D
open Go.RowKit
theorem Gq {c:Prop} [Decidable c] (h:c):chk c=some ():=if_pos h
theorem JT {α:Type} {xs:List α} {i n:Nat} {z:α} (h:i<=xs.length):(th xs i n z).take i=xs.take i:=by
 unfold th
 rw[List.take_append_of_le_length (by rw[aF];omega),List.take_take,Nat.min_self]
theorem Nt {α:Type} {xs:List α} {i:Nat} {z:α} (h:i<=xs.length):(th xs i xs.length z).length=xs.length:=wC h (ay _)
theorem Q9 {α:Type} {ys:List α} {i:Nat} {x:α} (h:i<ys.length):(ys.set i x).take (i+1)=ys.take i++ [x]:=by
 rw[List.take_succ_eq_append_getElem (by simpa using h)]
 simp[List.take_set_of_le]
theorem set_drop {α:Type} {ys:List α} {i j:Nat} {x:α} (h:i<j):(ys.set i x).drop j=ys.drop j:=by
 apply List.ext_getElem?
 intro q
 rw[List.getElem?_drop,List.getElem?_drop,List.getElem?_set_ne (by omega)]
theorem Nu {α:Type} {ys xs:List α} {j:Nat} (h:ys.drop j=xs.drop j):ys.drop (j+1)=xs.drop (j+1):=by
 rw[<-List.drop_drop,h,List.drop_drop]
theorem Ia {α:Type} {ys xs:List α} {j q:Nat} (h:ys.drop j=xs.drop j) (hq:j<=q) (h1:q<ys.length) (h2:q<xs.length):ys[q] =xs[q]:=by
 have e:=congrArg (fun l=>l[q - j]?) h
 simp only[List.getElem?_drop,show j+(q - j)=q from by omega] at e
 rw[List.getElem?_eq_getElem h1,List.getElem?_eq_getElem h2] at e
 exact ae e
section
variable {α:Type} [DecidableEq α]
end
end D
namespace D
open Go.RowKit
theorem uY (m:Nat):BitVec.ofInt 64 (m:Int)=BitVec.ofNat 64 m:=by simp
theorem Gr {m n:Nat} (hm:m<2 ^ 62) (hn:n<2 ^ 62):nw (m:Int) (n:Int)=((m &&& n:Nat):Int):=by
 unfold nw
 rw[uY,uY,BitVec.toNat_and,BitVec.toNat_ofNat,BitVec.toNat_ofNat,Nat.mod_eq_of_lt (by omega),Nat.mod_eq_of_lt (by omega)]
 have:m &&& n<=m:=Nat.and_le_left
 exact cZ (by omega) (by omega)
theorem SD {m n:Nat} (hm:m<2 ^ 62) (hn:n<2 ^ 62):orI (m:Int) (n:Int)=((m ||| n:Nat):Int):=by
 unfold orI
 rw[uY,uY,BitVec.toNat_or,BitVec.toNat_ofNat,BitVec.toNat_ofNat,Nat.mod_eq_of_lt (by omega),Nat.mod_eq_of_lt (by omega)]
 have:m ||| n<2 ^ 62:=Nat.or_lt_two_pow hm hn
 exact cZ (by omega) (by omega)
theorem Nv {m i:Nat} (hi:i<64):nr (m:Int) (i:Int)=((m >>> i:Nat):Int):=by
 unfold nr
 rw[show min (i:Int).toNat 64=i from by simp;omega,Nat.shiftRight_eq_div_pow,Int.fdiv_eq_ediv_of_nonneg _ (by exact_mod_cast Nat.zero_le _)]
 simp
theorem CD {i:Nat} (hi:i<62):wU 1 (i:Int)=((2 ^ i:Nat):Int):=by
 unfold wU
 rw[show min (i:Int).toNat 64=i from by simp;omega,Int.one_mul]
 have:2 ^ i<2 ^ 62:=Nat.pow_lt_pow_right (by decide) hi
 rw[show ((2:Int) ^ i)=((2 ^ i:Nat):Int) from by simp]
 generalize 2 ^ i=z at this
 exact cZ (by omega) (by omega)
theorem Nw {m i:Nat} (hm:m<2 ^ 62) (hi:i<64):((nw (nr (m:Int) (i:Int)) 1)==1)=m.testBit i:=by
 have h1:m >>> i<2 ^ 62:=Nat.lt_of_le_of_lt (by rw[Nat.shiftRight_eq_div_pow];exact Nat.div_le_self _ _) hm
 rw[Nv hi,show (1:Int)=((1:Nat):Int) from rfl,Gr h1 (by decide),Nat.testBit,Nat.and_comm]
 have e:m >>> i &&& 1=m >>> i % 2:=Nat.and_one_is_mod _
 rw[Nat.and_comm 1,e]
 rcases Nat.mod_two_eq_zero_or_one (m >>> i) with h | h <;> rw[h] <;> rfl
def zm (m k:Nat):List Int:=((List.range k).filter fun i=>m.testBit i).map fun (i:Nat)=>(i:Int)
theorem A9 (m k:Nat):zm m (k+1)=if m.testBit k then zm m k++ [(k:Int)] else zm m k:=by
 unfold zm
 rw[List.range_succ,List.filter_append,aM]
 by_cases h:m.testBit k=true
 ·simp[h]
 ·simp[h]
theorem JU {m k l:Nat} (h:m<2 ^ k) (hl:k<=l):zm m l=zm m k:=by
 induction hl with
 | refl=>rfl
 | step hl ih =>
  rw[A9,Nat.testBit_lt_two_pow (aI h (Nat.pow_le_pow_right (by decide) hl)),ih];rfl
theorem Nx (m k:Nat):(zm m k).length<=k:=by
 unfold zm;rw[List.length_map];exact Nat.le_trans (List.length_filter_le _ _) (by simp)
theorem Af (m i j:Nat):(m ||| 2 ^ i).testBit j=(m.testBit j || decide (i=j)):=by
 rw[Nat.testBit_or,Nat.testBit_two_pow]
end D
namespace D
open Go.RowKit
end D
namespace D
open Go.RowKit
theorem XE {p:Prop} [Decidable p] (h:p):chk p=some ():=by unfold chk;rw[if_pos h]
theorem Zx {m:Nat} (hm:m<2 ^ 30):uA (m:Int)=some (zm m 30):=by
 have hm':m<2 ^ 62:=aI hm (Nat.pow_le_pow_right (by decide) (by decide))
 unfold uA
 have:=aP (f:=lf (m:Int)) (fun i=>(zm m i,(i:Int))) 30 (fun i hi=>by
  have hl:=Nx m i
  unfold lf
  simp only
  rw[if_pos (by simp;omega),XE (by omega),Nw hm' (by omega),af (by omega),A9];simp only[aa]
  by_cases b:m.testBit i=true
  ·rw[if_pos b,if_pos b,aJ (by simp;omega)];rfl
  ·rw[if_neg b,if_neg b];rfl) (by unfold lf;simp) (by unfold aR;omega)
 have this:ax (lf (m:Int)) aR (([] :List Int),0)=_:=this
 rw[ai this]
end D
namespace D
open Go.RowKit
def ext (l:List Int) (ws:List (List Int)):List (List Int):=ws.flatMap fun w=>l.map fun c=>w++ [c]
theorem Ib (l:List Int) (a:List (List Int)) (w:List Int):ext l (a++ [w])=ext l a++l.map fun c=>w++ [c]:=by unfold ext;rw[List.flatMap_append];simp
theorem pP (l:List Int): ∀ws:List (List Int),(ext l ws).length=l.length*ws.length
 | [] =>rfl
 | w::ws=>by
  have:=pP l ws
  show ((l.map fun c=>w++ [c])++ext l ws).length=_
  rw[al,this,List.length_map,aB,Nat.mul_add];omega
def lets:List Int:=(List.range 9).map fun (k:Nat)=>(k:Int)
theorem uZ {c:Int} :c∈lets↔0<=c/\c<=8:=by
 unfold lets
 rw[List.mem_map]
 constructor
 ·rintro ⟨k,hk,rfl⟩;have:=List.mem_range.1 hk;omega
 ·intro h;exact ⟨c.toNat,List.mem_range.2 (by omega),by omega⟩
def wds (l:List Int):Nat->List (List Int)
 | 0=>[[]]
 | n+1=>ext l (wds l n)
theorem wh (l:List Int) (h:l.length<=9): ∀n,n<=3->(wds l n).length<=729
 | 0,_=>by simp[wds]
 | 1,_=>by rw[wds,pP];simp[wds];omega
 | 2,_=>by
  rw[wds,wds,pP,pP];simp only[wds,aB,aA,Nat.zero_add,Nat.mul_one]
  have:l.length*l.length<=9*9:=Nat.mul_le_mul h h
  omega
 | 3,_=>by
  rw[wds,wds,wds,pP,pP,pP];simp only[wds,aB,aA]
  have h1:l.length*l.length<=9*9:=Nat.mul_le_mul h h
  have:=Nat.mul_le_mul h h1
  simp only[Nat.zero_add,Nat.mul_one]
  omega
 | n+4,h=>by omega
theorem Ba (l:List Int): ∀n,∀w∈wds l n,w.length=n/\ ∀k∈w,k∈l
 | 0,w,h=>by
  obtain rfl:=ak h
  exact ⟨rfl,fun k hk=>by cases hk⟩
 | n+1,w,h=>by
  obtain ⟨v,hv,h⟩:=List.mem_flatMap.1 h
  obtain ⟨c,hc,rfl⟩:=List.mem_map.1 h
  obtain ⟨h1,h2⟩:=Ba l n v hv
  refine ⟨by simp[h1],fun k hk=>?_⟩
  rcases aH hk with hk | hk
  ·exact h2 k hk
  ·rw[ak hk];exact hc
theorem Bb {l:List Int} {p:Int->Bool} (hp:l=lets.filter p): ∀n,wds l n=(wds lets n).filter fun w=>w.all p
 | 0=>rfl
 | n+1=>by
  rw[wds,wds,Bb hp n]
  generalize wds lets n=L
  induction L with
  | nil=>rfl
  | cons w L ih =>
   have e1:ext lets (w::L)=(lets.map fun c=>w++ [c])++ext lets L:=rfl
   rw[e1,List.filter_append,<-ih]
   have e2:(lets.map fun c=>w++ [c]).filter (fun w=>w.all p)=if w.all p=true then l.map fun c=>w++ [c] else []:=by
    rw[List.filter_map]
    by_cases c:w.all p=true
    ·rw[if_pos c,hp]
     congr 1
     refine List.filter_congr fun x _=>?_
     simp[Function.comp,List.all_append,c]
    ·rw[if_neg c]
     have:lets.filter ((fun w=>w.all p) ∘ fun c=>w++ [c])= []:=List.filter_eq_nil_iff.2 fun x _=>by
      simp only[Function.comp,List.all_append,ah,not_and]
      exact fun h=>absurd h c
     rw[this];rfl
   rw[e2]
   by_cases c:w.all p=true
   ·rw[if_pos c,show List.filter (fun w:List Int=>w.all p) (w::L)=w::List.filter (fun w:List Int=>w.all p) L from List.filter_cons_of_pos c];rfl
   ·rw[if_neg c,show List.filter (fun w:List Int=>w.all p) (w::L)=List.filter (fun w:List Int=>w.all p) L from List.filter_cons_of_neg c];rfl
theorem Ra {mrec:Int->Option (List (List Int))} {x:List Int} (hx:x.length<=100) {out:List (List Int)} (ho:out.length<=10000):ax (jk mrec x) aR (out,0)=some (.brk (out++lets.map (fun c=>x++ [c]),9)):=by
 have e:=aP (f:=jk mrec x) (fun j=>(out++((List.range j).map fun (k:Nat)=>(k:Int)).map (fun c=>x++ [c]),(j:Int))) 9 (fun j hj=>by
  have c1:fY x=some x:=by
   unfold fY
   rw[aJ (by simp;omega)];rfl
  unfold jk
  simp only
  rw[if_pos (decide_eq_true (by omega)),c1];simp only[aa]
  rw[aJ (by simp;omega)];simp only[aa]
  rw[aJ (by simp;omega)];simp only[aa]
  rw[af (by omega),List.range_succ]
  simp) (by
  unfold jk
  simp) (fW (by omega))
 simpa [lets] using e
theorem Ny: ∀(n m:Nat),n<=3->n<m->gf m (n:Int)=some (wds lets n)
 | 0,m+1,_,_=>by
  rw[gf,if_pos (by simp)];rfl
 | n+1,m+1,h,hm=>by
  have hL:=wh lets (by decide) n (by omega)
  have hpre:i64.wrap (((n+1:Nat):Int) - 1)=(n:Int):=by rw[cZ (by omega) (by omega)];omega
  rw[gf,if_neg (by simp;omega),hpre,Ny n m (by omega) (by omega)];simp only[aa]
  have e:=aP (f:=jl (gf m) (wds lets n)) (fun i=>(ext lets ((wds lets n).take i),(i:Int))) (wds lets n).length (fun i hi=>by
   have hwi:=Ba lets n _ (List.getElem_mem hi)
   have hel:(ext lets ((wds lets n).take i)).length<=9*729:=by
    rw[pP,aF]
    have:lets.length=9:=by decide
    rw[this]
    omega
   unfold jl
   simp only
   rw[fg hi,if_pos rfl,aZ hi];simp only[aa]
   rw[ai (Ra (by omega) (by omega)),af (by omega),List.take_succ_eq_append_getElem hi,Ib]) (by
   unfold jl
   rw[eN];rfl) (fW (by omega))
  rw[List.take_length] at e
  have e:ax (jl (gf m) (wds lets n)) aR (([] :List (List Int)),0)=_:=e
  rw[ai e];rfl
def mB (x:Tr Tok) (w:List Int):Bool:=(eQ x w).getD false
theorem Nz {x:Tr Tok} (h:WT x) (hx:(flat x).length<=24) {w:List Int} (hl:w.length<=50) (hw: ∀k∈w,0<=k):eQ x w=some (mB x w)/\mN (flat x) w=some (mB x w)/\(mB x w=true↔LX x (w.map Int.toNat)):=by
 obtain ⟨b,e1,h1⟩:=Ns hl h (by omega) hw
 obtain ⟨c,e2,h2⟩:=Vk hl hw h (by omega)
 have hb:mB x w=b:=by unfold mB;rw[e1];rfl
 have:b=c:=by rw[Bool.eq_iff_iff,h1,h2]
 rw[hb]
 exact ⟨e1,by rw[this];exact e2,h1⟩
theorem vc (f:Nat->List (List Int)) (hf: ∀j,j<=3->(f j).length<=729): ∀n,n<=4->((List.range n).flatMap f).length<=729*n
 | 0,_=>by simp
 | n+1,h=>by
  rw[List.range_succ,List.flatMap_append,al]
  have h1:=vc f hf n (by omega)
  have h2:=hf n (by omega)
  simp only[List.flatMap_cons,List.flatMap_nil,List.append_nil]
  omega
section
variable {x:Tr Tok} (h:WT x) (hx:(flat x).length<=24)
include h hx
theorem XF {L:Nat} (hL:L<=3):fe (flat x) (L:Int)=some ((List.range (L+1)).flatMap fun j=>(wds lets j).filter (mB x)):=by
 have he:(flat x).length<=1048576:=by omega
 have hFU:=fU
 have hv:b8 (flat x)=some true:=by
  rw[dO he,nW h,decide_eq_true hx];rfl
 have hlen: ∀j,j<=3->((wds lets j).filter (mB x)).length<=729:=fun j hj=>Nat.le_trans (List.length_filter_le _ _) (wh lets (by decide) j hj)
 unfold fe
 rw[hv];simp only[aa,if_true]
 rw[E6,decide_eq_true (by omega)];simp only[aa,if_true]
 rw[pO he,fT h];simp only[aa]
 have e:=aP (f:=gA (L:Int) x) (fun n=>((List.range n).flatMap fun j=>(wds lets j).filter (mB x),(n:Int))) (L+1) (fun n hn=>by
  have hout:=vc (fun j=>(wds lets j).filter (mB x)) hlen n (by omega)
  have hwl:=wh lets (by decide) n (by omega)
  have hin:=Ba lets n
  generalize hO:(List.range n).flatMap (fun j=>(wds lets j).filter (mB x))=O at hout⊢
  have e1:=aP (f:=gz x (wds lets n)) (fun i=>(O++((wds lets n).take i).filter (mB x),(i:Int))) (wds lets n).length (fun i hi=>by
   obtain ⟨q1,q2⟩:=hin _ (List.getElem_mem hi)
   obtain ⟨m1,-,-⟩:=Nz h hx (w:=(wds lets n)[i]) (by omega) (fun k hk=>(uZ.1 (q2 k hk)).1)
   have hfl:=List.length_filter_le (mB x) ((wds lets n).take i)
   rw[aF] at hfl
   unfold gz
   simp only
   rw[fg hi,if_pos rfl,aZ hi];simp only[aa]
   rw[m1];simp only[aa]
   rw[List.take_succ_eq_append_getElem hi,List.filter_append]
   by_cases c:mB x (wds lets n)[i] =true
   ·rw[if_pos c,aJ (by simp only[al,aB,aA];omega)];simp only[aa]
    rw[af (by omega),List.filter_cons_of_pos c]
    simp
   ·rw[if_neg c];simp only[aa]
    rw[af (by omega),List.filter_cons_of_neg c]
    simp) (by
   unfold gz
   rw[eN];rfl) (fW (by omega))
  rw[List.take_length] at e1
  have e1:ax (gz x (wds lets n)) aR (O,0)=some (.brk (O++(wds lets n).filter (mB x),((wds lets n).length:Int))):=by simpa using e1
  unfold gA
  simp only
  rw[if_pos (decide_eq_true (by omega)),Ny n bP (by omega) (by omega)];simp only[aa]
  rw[ai e1,af (by omega),List.range_succ,List.flatMap_append,hO]
  simp) (by
  unfold gA
  simp only
  rw[if_neg (by simp;omega)]) (fW (by omega))
 have e:ax (gA (L:Int) x) aR (([] :List (List Int)),0)=_:=e
 rw[ai e]
theorem XG {L:Nat} (hL:L<=3) {l:List Int} (hl9:l.length<=9) (hal:lg (flat x)=some l) (hl0: ∀c∈l,0<=c):dV (flat x) (L:Int)=some ((List.range (L+1)).flatMap fun j=>(wds l j).filter (mB x)):=by
 have he:(flat x).length<=1048576:=by omega
 have hv:bK (flat x)=some true:=by
  rw[dj he,nW h,decide_eq_true hx];rfl
 have hlen: ∀j,j<=3->((wds l j).filter (mB x)).length<=729:=fun j hj=>Nat.le_trans (List.length_filter_le _ _) (wh l hl9 j hj)
 unfold dV
 rw[hv];simp only[aa,if_true]
 rw[HZ,decide_eq_true (by omega)];simp only[aa,if_true]
 rw[hal];simp only[aa]
 have e:=aP (f:=gr (flat x) (L:Int) l) (fun n=>((List.range n).flatMap (fun j=>(wds l j).filter (mB x)),wds l n,(n:Int))) (L+1) (fun n hn=>by
  have hout:=vc (fun j=>(wds l j).filter (mB x)) hlen n (by omega)
  have hwl:=wh l hl9 n (by omega)
  have hin:=Ba l n
  generalize hO:(List.range n).flatMap (fun j=>(wds l j).filter (mB x))=O at hout⊢
  have e1:=aP (f:=gq (flat x) l) (fun i=>(O++((wds l n).take i).filter (mB x),ext l ((wds l n).take i),(i:Int),wds l n)) (wds l n).length (fun i hi=>by
   obtain ⟨q1,q2⟩:=hin _ (List.getElem_mem hi)
   obtain ⟨-,m1,-⟩:=Nz h hx (w:=(wds l n)[i]) (by omega) (fun k hk=>hl0 k (q2 k hk))
   have hfl:=List.length_filter_le (mB x) ((wds l n).take i)
   have hel:(ext l ((wds l n).take i)).length<=9*729:=by
    rw[pP,aF]
    exact Nat.mul_le_mul hl9 (by omega)
   rw[aF] at hfl
   have hj: ∀(s6:(List (List Int))×(List (List Int))×Int×List (List Int)) (s14:(List (List Int))×List (List Int)),s6.2.2.1=(i:Int)->s14.2=wds l n->ax (gp l s6 s14) aR (ext l ((wds l n).take i),0)=some (.brk (ext l ((wds l n).take i)++l.map (fun c=>(wds l n)[i] ++ [c]),(l.length:Int))):=fun s6 s14 g1 g2=>by
    have e2:=aP (f:=gp l s6 s14) (fun j=>(ext l ((wds l n).take i)++(l.take j).map (fun c=>(wds l n)[i] ++ [c]),(j:Int))) l.length (fun j hj=>by
     unfold gp
     simp only
     rw[fg hj,if_pos rfl,g1,g2,aZ hi];simp only[aa]
     rw[aJ (by simp only[aA];omega)];simp only[aa]
     rw[aZ hj];simp only[aa,List.nil_append]
     rw[aJ (by simp only[aB,aA];omega)];simp only[aa]
     rw[aJ (by simp only[al,List.length_map,aF,aB,aA];omega)];simp only[aa]
     rw[af (by omega),List.take_succ_eq_append_getElem hj,aM,<-aD];rfl) (by
     unfold gp
     rw[eN];rfl) (fW (by omega))
    rw[List.take_length] at e2
    simpa using e2
   unfold gq
   simp only
   rw[fg hi,if_pos rfl,aZ hi];simp only[aa]
   rw[m1];simp only[aa]
   rw[List.take_succ_eq_append_getElem hi,List.filter_append,Ib]
   by_cases c:mB x (wds l n)[i] =true
   ·rw[if_pos c,aJ (by simp only[aA];omega)];simp only[aa]
    rw[aJ (by simp only[al,aB,aA];omega)];simp only[aa]
    rw[ai (hj _ _ rfl rfl),af (by omega),List.filter_cons_of_pos c]
    simp
   ·rw[if_neg c];simp only[aa]
    rw[ai (hj _ _ rfl rfl),af (by omega),List.filter_cons_of_neg c]
    simp) (by
   unfold gq
   simp only
   rw[eN];rfl) (fW (by omega))
  rw[List.take_length] at e1
  have e1:ax (gq (flat x) l) aR (O,([] :List (List Int)),0,wds l n)=some (.brk (O++(wds l n).filter (mB x),ext l (wds l n),((wds l n).length:Int),wds l n)):=by simpa [ext] using e1
  unfold gr
  simp only
  rw[if_pos (decide_eq_true (by omega)),ai e1,af (by omega),List.range_succ,List.flatMap_append,hO]
  simp[wds]) (by
  unfold gr
  simp only
  rw[if_neg (by simp;omega)]) (fW (by omega))
 have e:ax (gr (flat x) (L:Int) l) aR (([] :List (List Int)),[([] :List Int)],0)=_:=e
 rw[ai e]
end
end D
namespace D
abbrev Pr:=Int×Int
def ltP (a b:Pr):Prop:=a.1<b.1\/a.1=b.1/\a.2<b.2
instance (a b:Pr):Decidable (ltP a b):=inferInstanceAs (Decidable (_\/_))
theorem Gs (a:Pr): ¬ltP a a:=by unfold ltP;omega
theorem Ew {a b c:Pr} (h:ltP a b) (k:ltP b c):ltP a c:=by unfold ltP at *;omega
theorem NA {a b:Pr} (h:ltP a b): ¬ltP b a:=by unfold ltP at *;omega
theorem Gt (a b:Pr):ltP a b\/a=b\/ltP b a:=by
 unfold ltP
 by_cases h:a=b
 ·exact .inr (.inl h)
 ·have: ¬(a.1=b.1/\a.2=b.2):=fun e=>h (Prod.ext e.1 e.2)
  omega
abbrev Str (l:List Pr):Prop:=l.Pairwise ltP
theorem vd: ∀ {l m:List Pr},Str l->Str m->(∀x,x∈l↔x∈m)->l=m
 | [],[],_,_,_=>rfl
 | [],b::m,_,_,h=>absurd ((h b).2 (List.mem_cons_self ..)) (by simp)
 | a::l,[],_,_,h=>absurd ((h a).1 (List.mem_cons_self ..)) (by simp)
 | a::l,b::m,hl,hm,h=>by
  obtain ⟨l1,l2⟩:=List.pairwise_cons.1 hl
  obtain ⟨m1,m2⟩:=List.pairwise_cons.1 hm
  have hab:a=b:=by
   rcases az ((h a).1 (List.mem_cons_self ..)) with e | e
   ·exact e
   ·rcases az ((h b).2 (List.mem_cons_self ..)) with f | f
    ·exact f.symm
    ·exact absurd (m1 a e) (NA (l1 b f))
  subst hab
  rw[vd l2 m2 fun x=>?_]
  constructor
  ·intro hx
   rcases az ((h x).1 (ba _ hx)) with e | e
   ·subst e;exact absurd (l1 x hx) (Gs x)
   ·exact e
  ·intro hx
   rcases az ((h x).2 (ba _ hx)) with e | e
   ·subst e;exact absurd (m1 x hx) (Gs x)
   ·exact e
def ahd (p:Pr):List Pr->Nat
 | [] =>0
 | a::l=>if ltP a p then ahd p l+1 else 0
theorem NB (p:Pr): ∀l:List Pr,ahd p l<=l.length
 | [] =>ay _
 | a::l=>by
  unfold ahd
  split
  ·have:=NB p l;rw[aB];omega
  ·exact Nat.zero_le _
theorem SE (p:Pr): ∀(l:List Pr) (i:Nat),i<ahd p l-> ∃x,l[i]? =some x/\ltP x p
 | [],i,h=>by simp[ahd] at h
 | a::l,i,h=>by
  unfold ahd at h
  split at h
  ·rename_i ha
   cases i with
   | zero=>exact ⟨a,rfl,ha⟩
   | succ i =>
    obtain ⟨x,h1,h2⟩:=SE p l i (by omega)
    exact ⟨x,by simpa using h1,h2⟩
  ·omega
theorem SF (p:Pr): ∀(l:List Pr) x,l[ahd p l]? =some x-> ¬ltP x p
 | [],x,h=>by simp at h
 | a::l,x,h=>by
  unfold ahd at h
  split at h
  ·exact SF p l x (by simpa using h)
  ·rename_i ha
   simp at h
   subst h;exact ha
def put (l:List Pr) (p:Pr):List Pr:=if l[ahd p l]? =some p then l else l.take (ahd p l)++p::l.drop (ahd p l)
theorem Ic (a:Pr) (l:List Pr) (p:Pr):put (a::l) p=if ltP a p then a::put l p else if a=p then a::l else p::a::l:=by
 unfold put
 by_cases h:ltP a p
 ·have e:ahd p (a::l)=ahd p l+1:=by rw[ahd,if_pos h]
  rw[e,if_pos h]
  by_cases k:l[ahd p l]? =some p
  ·rw[if_pos (by simpa using k),if_pos k]
  ·rw[if_neg (by simpa using k),if_neg k];rfl
 ·have e:ahd p (a::l)=0:=by rw[ahd,if_neg h]
  rw[e,if_neg h]
  by_cases k:a=p
  ·rw[if_pos (by simp[k]),if_pos k]
  ·rw[if_neg (by simpa using k),if_neg k];rfl
theorem Gu {x p:Pr} : ∀l:List Pr,x∈put l p↔x=p\/x∈l
 | [] =>by simp[put,ahd]
 | a::l=>by
  rw[Ic]
  split
  ·rw[List.mem_cons,Gu l,List.mem_cons];grind
  ·split
   ·rename_i e;subst e;rw[List.mem_cons];grind
   ·rw[List.mem_cons]
theorem NC {p:Pr} : ∀ {l:List Pr},Str l->Str (put l p)
 | [],_=>by simp[put,ahd]
 | a::l,h=>by
  obtain ⟨h1,h2⟩:=List.pairwise_cons.1 h
  rw[Ic]
  split
  ·rename_i ha
   refine List.pairwise_cons.2 ⟨fun x hx=>?_,NC h2⟩
   rcases (Gu l).1 hx with rfl | hx
   ·exact ha
   ·exact h1 x hx
  ·rename_i ha
   split
   ·exact h
   ·rename_i hn
    have hp:ltP p a:=by
     rcases Gt p a with c | c | c
     ·exact c
     ·exact absurd c.symm hn
     ·exact absurd c ha
    refine List.pairwise_cons.2 ⟨fun x hx=>?_,h⟩
    rcases az hx with rfl | hx
    ·exact hp
    ·exact Ew hp (h1 x hx)
def puts (l m:List Pr):List Pr:=m.foldl put l
theorem nX: ∀ {m l:List Pr},Str l->Str (puts l m)
 | [],l,h=>h
 | p::m,l,h=>nX (m:=m) (NC h)
theorem jy {x:Pr} : ∀ {m l:List Pr},x∈puts l m↔x∈l\/x∈m
 | [],l=>by simp[puts]
 | p::m,l=>by
  show x∈puts (put l p) m↔_
  rw[jy,Gu,List.mem_cons];grind
def nub:List Pr->List Pr
 | [] =>[]
 | [a] =>[a]
 | a::b::l=>if a=b then nub (b::l) else a::nub (b::l)
theorem CE {x:Pr} : ∀ {l:List Pr},x∈nub l↔x∈l
 | [] =>Iff.rfl
 | [a] =>Iff.rfl
 | a::b::l=>by
  rw[nub]
  split
  ·rename_i e;subst e;rw[CE];simp
  ·rw[List.mem_cons,CE,List.mem_cons (l:=b::l)]
theorem Gv: ∀ {l:List Pr},l.Pairwise (fun a b=> ¬ltP b a)->Str (nub l)
 | [],_=>List.Pairwise.nil
 | [a],_=>by simp[nub]
 | a::b::l,h=>by
  obtain ⟨h1,h2⟩:=List.pairwise_cons.1 h
  rw[nub]
  split
  ·exact Gv h2
  ·rename_i hn
   refine List.pairwise_cons.2 ⟨fun x hx=>?_,Gv h2⟩
   have hab:ltP a b:=by
    rcases Gt a b with c | c | c
    ·exact c
    ·exact absurd c hn
    ·exact absurd c (h1 b (List.mem_cons_self ..))
   rcases az (CE.1 hx) with rfl | hx
   ·exact hab
   ·rcases Gt b x with c | c | c
    ·exact Ew hab c
    ·subst c;exact hab
    ·exact absurd c ((List.pairwise_cons.1 h2).1 x hx)
end D
namespace D
open Go.RowKit
theorem ND {α R:Type} {f:Int->Option (Out R Int)} (l:List α) (b:α->Bool) (r:Nat->R) (hN:l.length<=9223372036854775807) (h: ∀i (hi:i<l.length),f (i:Int)=some (if b l[i] then .ret (r i) else .nxt ((i+1:Nat):Int))) (he:f (l.length:Int)=some (.brk (l.length:Int))) :
  (∃(i:Nat) (hi:i<l.length),b l[i] =true/\(∀j (hj:j<i),b (l[j]'(by omega))=false)/\ax f aR 0=some (.ret (r i)))\/((∀x,x∈l->b x=false)/\ax f aR 0=some (.brk (l.length:Int))):=by
 obtain ⟨o,e,hQ⟩:=cj (f:=f) (fun i s=>s=(i:Int)/\ ∀j (hj:j<l.length),j<i->b l[j] =false) (fun o=>(∃(i:Nat) (hi:i<l.length),b l[i] =true/\(∀j (hj:j<i),b (l[j]'(by omega))=false)/\o= .ret (r i))\/((∀x,x∈l->b x=false)/\o= .brk (l.length:Int))) l.length (fun i s hi hI=>by
  obtain ⟨rfl,hI⟩:=hI
  by_cases h1:i<l.length
  ·cases hb:b l[i] with
   | true=>exact .inr ⟨_,by rw[h i h1,hb,if_pos rfl],fun s' hh=>by simp at hh,.inl ⟨i,h1,hb,fun j hj=>hI j (by omega) hj,by simp⟩⟩
   | false=>exact .inl ⟨h1,_,by rw[h i h1,hb,if_neg (by simp)],rfl,fun j hj hji=>by
     by_cases c:j=i
     ·subst c;exact hb
     ·exact hI j hj (by omega)⟩
  ·obtain rfl:i=l.length:=by omega
   exact .inr ⟨_,he,fun s' hh=>by simp at hh,.inr ⟨fun x hx=>by
    obtain ⟨j,hj,rfl⟩:=List.getElem_of_mem hx
    exact hI j hj hj,rfl⟩⟩) (s:=0) ⟨rfl,fun j hj h0=>by omega⟩ (o8 _ hN)
 rcases hQ with ⟨i,hi,h1,h2,rfl⟩ | ⟨h1,rfl⟩
 ·exact .inl ⟨i,hi,h1,h2,e⟩
 ·exact .inr ⟨h1,e⟩
section
variable {l m:List Pr} {p:Pr}
theorem Zy {a b:Pr} :((a.1==b.1)&&((a.2==b.2)&&true))=decide (a=b):=by
 rw[Bool.eq_iff_iff];simp[Prod.ext_iff]
theorem Zz {a b:Pr} :(Bool.and.match_1 (fun (_:Bool)=>Bool) (a.1==b.1) (fun (_:Unit)=>false) (fun (_:Unit)=>Bool.and.match_1 (fun (_:Bool)=>Bool) (a.2==b.2) (fun (_:Unit)=>false) (fun (_:Unit)=>true)))=decide (a=b):=Zy
theorem XH (hl:l.length<=1073741824):oG l p=some (decide (p∈l)):=by
 unfold oG
 rcases ND (f:=me l p) l (fun x=>decide (x=p)) (fun _=>true) (by omega) (fun i hi=>by
   unfold me
   rw[fg hi,if_pos rfl,aZ hi]
   simp only[aa,Zy,af (show i<9223372036854775807 by omega)]
   split <;> rfl) (by
   unfold me
   rw[eN];rfl) with ⟨i,hi,h1,-,e⟩ | ⟨h1,e⟩
 ·rw[bM e,decide_eq_true (by rw[<-of_decide_eq_true h1];exact List.getElem_mem hi)]
 ·rw[ai e,decide_eq_false fun hm=>by have:=h1 p hm;simp at this]
theorem ZA (hl:l.length<=1073741824): ∃r:Int,cw l p=some r/\(0<=r↔p∈l):=by
 unfold cw
 rcases ND (f:=bW l p) l (fun x=>decide (p=x)) (fun i=>(i:Int)) (by omega) (fun i hi=>by
   unfold bW
   rw[fg hi,if_pos rfl,aZ hi]
   simp only[aa,Zy,af (show i<9223372036854775807 by omega)]
   split <;> rfl) (by
   unfold bW
   rw[eN];rfl) with ⟨i,hi,h1,-,e⟩ | ⟨h1,e⟩
 ·exact ⟨_,bM e,by
   have:p∈l:=by rw[of_decide_eq_true h1];exact List.getElem_mem hi
   simp[this]⟩
 ·exact ⟨_,ai e,by
   have:p∉l:=fun hm=>by have:=h1 p hm;simp at this
   simp[this]⟩
theorem Rb (hl:l.length<=1073741824):bd l p=some (decide (p∈l)):=by
 unfold bd
 obtain ⟨r,e,h⟩:=ZA (l:=l) (p:=p) hl
 rw[jB,e,aa]
 congr 1
 rw[Bool.eq_iff_iff,decide_eq_true_iff,decide_eq_true_iff]
 exact h
theorem NF (a b:Pr):kC a b=some (decide (ltP a b)):=by
 unfold kC ltP
 by_cases h:a.1<b.1
 ·simp[h]
 ·by_cases k:a.1=b.1 <;> simp[h,k]
theorem Vl (a b:Pr): ∃r:Int,gy a b=some r/\(0<=r↔ ¬ltP a b):=by
 unfold gy j5 ltP
 by_cases k:a.1=b.1
 ·by_cases h:a.2<b.2
  ·exact ⟨-1,by simp[k,h],by simp[k,h]⟩
  ·by_cases h2:b.2<a.2
   ·exact ⟨1,by simp[k,h,h2],by simp[k,h]⟩
   ·exact ⟨0,by simp[k,h,h2],by simp[k,h]⟩
 ·by_cases h:a.1<b.1
  ·exact ⟨-1,by simp[k,h],by simp[k,h]⟩
  ·have h2:b.1<a.1:=by omega
   exact ⟨1,by simp[k,h,h2],by simp[k,h]⟩
theorem CF:fX l=fc l:=by
 unfold fX fc
 have e:mP l=cJ l:=by
  funext s
  unfold mP cJ
  have hw:cd=bc:=rfl
  rw[hw]
  cases hg:aK l s with
  | none=>rfl
  | some x =>
   have hk: ∀y:Pr,((kC (y.1,y.2) (x.1,x.2)).bind fun r9=>if r9=true then some (Out.nxt (R:=Bool) (i64.wrap (s+1))) else some (Out.ret false))=((gy (y.1,y.2) (x.1,x.2)).bind fun r9=>if decide (r9≥0)=true then some (Out.ret false) else some (Out.nxt (i64.wrap (s+1)))):=fun y=>by
    rw[NF]
    obtain ⟨r,e,h⟩:=Vl (y.1,y.2) (x.1,x.2)
    rw[e]
    simp only[aa,jB] at h⊢
    by_cases c:ltP y x
    ·rw[if_pos (decide_eq_true c),if_neg (by simpa using fun q=>(h.1 q) c)]
    ·rw[if_neg (by simpa using c),if_pos (by simpa using h.2 c)]
   simp only[aa,hk]
 rw[e]
end
end D
namespace D
open Go.RowKit
theorem NG (l:List Pr) (p:Pr):(put l p).length<=l.length+1:=by
 have:=NB p l
 unfold put
 split
 ·omega
 ·rw[al,aF,aB,bC];omega
theorem mA: ∀(m l:List Pr),(puts l m).length<=l.length+m.length
 | [],l=>ay _
 | p::m,l=>by
  have h1:=mA m (put l p)
  have h2:=NG l p
  show (puts (put l p) m).length<=_
  rw[aB];omega
theorem rB (l m:List Pr) (p:Pr):puts l (m++ [p])=put (puts l m) p:=by simp[puts]
theorem Ex (l:List Pr) (p:Pr) (hl:l.length<=1073741824):gD l p=some (put l p):=by
 have hk:=NB p l
 have e:ax (mc l p) aR 0=some (.brk ((ahd p l:Nat):Int)):=by
  obtain ⟨o,e,rfl⟩:=cj (f:=mc l p) (fun i s=>s=(i:Int)) (fun o=>o= .brk ((ahd p l:Nat):Int)) (ahd p l) (fun i s hi hI=>by
   subst hI
   unfold mc
   by_cases h1:i<ahd p l
   ·obtain ⟨x,g1,g2⟩:=SE p l i h1
    have hil:i<l.length:=by omega
    rw[List.getElem?_eq_getElem hil] at g1
    obtain rfl:=ae g1
    refine .inl ⟨h1,((i+1:Nat):Int),?_,rfl⟩
    rw[fg hil,if_pos rfl,aZ hil]
    simp only[aa,NF,jB]
    rw[if_pos (decide_eq_true g2),af (by omega)]
   ·obtain rfl:i=ahd p l:=by omega
    refine .inr ⟨_,?_,fun s' hh=>(by simp at hh),rfl⟩
    by_cases hil:ahd p l<l.length
    ·have g:=SF p l _ (List.getElem?_eq_getElem hil)
     rw[fg hil,if_pos rfl,aZ hil]
     simp only[aa,NF,jB]
     rw[if_neg (by simpa using g)]
    ·rw[if_neg (by simp;omega)]) (s:=0) rfl (o8 _ (by omega))
  exact e
 unfold gD
 rw[ai e]
 have c1:chk ((0:Int)<=((ahd p l:Nat):Int)/\((ahd p l:Nat):Int)<=(l.length:Int))=some ():=if_pos (by omega)
 have a1:cP 16 ([] :List Pr) ((l.take (ahd p l)).drop 0)=some (l.take (ahd p l)):=by
  rw[List.drop_zero,aJ (by simp only[aA,aF];omega)];rfl
 have a2:cP 16 (l.take (ahd p l)) [p] =some (l.take (ahd p l)++ [p]):=aJ (by simp only[List.length_singleton,aF];omega)
 have a3:cP 16 (l.take (ahd p l)++ [p]) ((l.take l.length).drop (ahd p l))=some (l.take (ahd p l)++p::l.drop (ahd p l)):=by
  rw[List.take_of_length_le (ay _),aJ (by simp only[al,List.length_singleton,aF,bC];omega),aD];rfl
 simp only[c1,aa,Int.toNat_natCast,a1,a2,a3,jB]
 unfold put
 by_cases hil:ahd p l<l.length
 ·rw[fg hil,if_pos rfl,aZ hil]
  simp only[aa,Zz]
  rw[List.getElem?_eq_getElem hil]
  by_cases h:l[ahd p l] =p
  ·rw[if_pos (decide_eq_true h),if_pos (by rw[h])]
  ·rw[if_neg (by simpa using h),if_neg (by simpa using h)]
 ·rw[if_neg (by simp;omega),List.getElem?_eq_none (by omega),if_neg (by simp)]
theorem zn {a b:List Pr} (ha:a.length<=67108864) (hb:b.length<=67108864):gE a b=some (puts [] (a++b)):=by
 unfold gE
 obtain ⟨s1,e1,rfl⟩:=a7 (f:=iD a) (fun i s=>s=(puts [] (a.take i),(i:Int))) a.length (fun i s hi hI=>by
  subst hI
  have hln:=mA (a.take i) []
  rw[aF] at hln
  refine ⟨_,?_,rfl⟩
  unfold iD
  rw[fg hi,if_pos rfl,aZ hi]
  simp only[aa,jB]
  rw[Ex _ _ (by simp only[aA] at hln;omega)]
  simp only[aa]
  rw[af (by omega),List.take_succ_eq_append_getElem hi,rB]) (fun s hI=>by
  subst hI
  unfold iD
  rw[eN];rfl) (s:=(([] :List Pr),0)) rfl (o8 _ (by omega))
 rw[ai e1,List.take_of_length_le (ay _)]
 obtain ⟨s2,e2,rfl⟩:=a7 (f:=iE b) (fun i s=>s=(puts [] (a++b.take i),(i:Int))) b.length (fun i s hi hI=>by
  subst hI
  have hln:=mA (a++b.take i) []
  rw[al,aF] at hln
  refine ⟨_,?_,rfl⟩
  unfold iE
  rw[fg hi,if_pos rfl,aZ hi]
  simp only[aa,jB]
  rw[Ex _ _ (by simp only[aA] at hln;omega)]
  simp only[aa]
  rw[af (by omega),List.take_succ_eq_append_getElem hi,<-aD,rB]) (fun s hI=>by
  subst hI
  unfold iE
  rw[eN];rfl) (s:=(puts [] a,0)) (by simp) (o8 _ (by omega))
 rw[ai e2,List.take_of_length_le (ay _)]
theorem JV {a b:List Pr} (ha:a.length<=67108864) (hb:b.length<=67108864):iM a b=some (puts [] (a.filter fun x=> !decide (x∈b))):=by
 unfold iM
 obtain ⟨s1,e1,rfl⟩:=a7 (f:=fx a b) (fun i s=>s=(puts [] ((a.take i).filter fun x=> !decide (x∈b)),(i:Int))) a.length (fun i s hi hI=>by
  subst hI
  have hln:=mA ((a.take i).filter fun x=> !decide (x∈b)) []
  have hl2:=List.length_filter_le (fun x=> !decide (x∈b)) (a.take i)
  rw[aF] at hl2
  refine ⟨_,?_,rfl⟩
  unfold fx
  rw[fg hi,if_pos rfl,aZ hi]
  simp only[aa,jB]
  rw[XH (by omega)]
  simp only[aa]
  rw[af (by omega),List.take_succ_eq_append_getElem hi,List.filter_append]
  by_cases h:a[i] ∈ b
  ·rw[if_pos (decide_eq_true h)]
   simp[h]
  ·rw[if_neg (by simpa using h),Ex _ _ (by simp only[aA] at hln;omega)]
   simp only[aa]
   rw[show [a[i]].filter (fun x=> !decide (x∈b))= [a[i]] from by simp[h],rB]) (fun s hI=>by
  subst hI
  unfold fx
  rw[eN];rfl) (s:=(([] :List Pr),0)) rfl (o8 _ (by omega))
 rw[ai e1,List.take_of_length_le (ay _)]
end D
namespace D
open Go.RowKit
theorem Ie: ∀(l:List Pr) (b:Pr),l≠ [] ->nub (l++ [b])=if l.getLast? =some b then nub l else nub l++ [b]
 | [],b,h=>absurd rfl h
 | [a],b,_=>by
  by_cases e:a=b
  ·subst e;simp[nub]
  ·simp[nub,e]
 | a::c::l,b,_=>by
  have ih:=Ie (c::l) b (by simp)
  have hg:(a::c::l).getLast? =(c::l).getLast? :=by simp[List.getLast?_cons_cons]
  rw[hg]
  show nub (a::c::(l++ [b]))=_
  rw[nub,nub]
  rw[show c::(l++ [b])=(c::l)++ [b] from rfl,ih]
  by_cases e:a=c
  ·rw[if_pos e,if_pos e]
  ·rw[if_neg e,if_neg e]
   split <;> simp
theorem CG {xs:List Pr} {j:Nat} (h0:0<j) (h:j<xs.length):nub (xs.take (j+1))=if xs[j - 1] =xs[j] then nub (xs.take j) else nub (xs.take j)++ [xs[j]]:=by
 rw[List.take_succ_eq_append_getElem h,Ie _ _ (by
  intro e
  have h9:=congrArg List.length e
  rw[aF,Nat.min_eq_left (Nat.le_of_lt h),aA] at h9
  omega)]
 have hg:(xs.take j).getLast? =some xs[j - 1]:=by
  rw[List.getLast?_eq_getElem?,aF,Nat.min_eq_left (Nat.le_of_lt h),List.getElem?_take,if_pos (show j - 1<j by omega),List.getElem?_eq_getElem (show j - 1<xs.length by omega)]
 rw[hg]
 by_cases e:xs[j - 1] =xs[j]
 ·rw[if_pos (by rw[e]),if_pos e]
 ·rw[if_neg (by simpa using e),if_neg e]
theorem If {xs:List Pr} : ∀(j:Nat),j<=xs.length->(∀q (hq:q<j) (h0:0<q) (hx:j<=xs.length),xs[q - 1]'(by omega)≠xs[q]'(by omega))->nub (xs.take j)=xs.take j
 | 0,_,_=>by simp[nub]
 | 1,h,_=>by
  cases xs with
  | nil=>simp[nub]
  | cons a l=>simp[nub]
 | j+2,h,hq=>by
  rw[CG (by omega) (by omega),if_neg (hq (j+1) (by omega) (by omega) h),If (j+1) (by omega) (fun q h1 h2 h3=>hq q (by omega) h2 h),<-List.take_succ_eq_append_getElem]
end D
namespace D
open Go.RowKit
theorem NH (l:List Pr) (hl:l.length<=1073741824): ∃b,fc l=some b:=by
 unfold fc
 obtain ⟨o,e,hQ⟩:=cj (f:=cJ l) (fun i s=>s=(i:Int)) (fun o=>o= .ret false\/ ∃s,o= .brk s) l.length (fun i s hi hI=>by
  subst hI
  unfold cJ bc
  by_cases h1:i<l.length
  ·rw[fg h1,if_pos rfl,aZ h1,af (by omega)]
   have fin: ∀c:Prop,[Decidable c] ->(i<l.length/\ ∃s',(if c then some (.ret false) else some (.nxt ((i+1:Nat):Int)):Option (Out Bool Int))=some (.nxt s')/\s'=((i+1:Nat):Int))\/ ∃o,(if c then some (.ret false) else some (.nxt ((i+1:Nat):Int)):Option (Out Bool Int))=some o/\(∀s',o≠ .nxt s')/\(o= .ret false\/ ∃s,o= .brk s):=by
    intro c _
    split
    ·exact .inr ⟨_,rfl,fun s' h=>by simp at h,.inl rfl⟩
    ·exact .inl ⟨h1,_,rfl,rfl⟩
   have bad:(i<l.length/\ ∃s',(some (.ret false):Option (Out Bool Int))=some (.nxt s')/\s'=((i+1:Nat):Int))\/ ∃o,(some (.ret false):Option (Out Bool Int))=some o/\(∀s',o≠ .nxt s')/\(o= .ret false\/ ∃s,o= .brk s):=.inr ⟨_,rfl,fun s' h=>by simp at h,.inl rfl⟩
   have good:(i<l.length/\ ∃s',(some (.nxt ((i+1:Nat):Int)):Option (Out Bool Int))=some (.nxt s')/\s'=((i+1:Nat):Int))\/ ∃o,(some (.nxt ((i+1:Nat):Int)):Option (Out Bool Int))=some o/\(∀s',o≠ .nxt s')/\(o= .ret false\/ ∃s,o= .brk s):=.inl ⟨h1,_,rfl,rfl⟩
   by_cases c1:l[i].1≥0
   ·by_cases c2:l[i].1<=4
    ·by_cases c3:l[i].2≥0
     ·by_cases c4:l[i].2<=4
      ·by_cases c5:(i:Int)>0
       ·have hp:i64.wrap ((i:Int) - 1)=((i - 1:Nat):Int):=by rw[cZ (by omega) (by omega)];omega
        obtain ⟨r,er,-⟩:=Vl l[i - 1] l[i]
        simp only[aa,c1,c2,c3,c4,c5,decide_true,if_true,hp,aZ (show i - 1<l.length by omega),jB,er]
        exact fin _
       ·simp only[aa,c1,c2,c3,c4,c5,decide_true,if_true,decide_false,Bool.false_eq_true,if_false]
        exact good
      ·simp only[aa,c1,c2,c3,c4,decide_true,if_true,decide_false,Bool.false_eq_true,if_false]
       exact bad
     ·simp only[aa,c1,c2,c3,decide_true,if_true,decide_false,Bool.false_eq_true,if_false]
      exact bad
    ·simp only[aa,c1,c2,decide_true,if_true,decide_false,Bool.false_eq_true,if_false]
     exact bad
   ·simp only[aa,c1,decide_false,Bool.false_eq_true,if_false]
    exact bad
  ·obtain rfl:i=l.length:=by omega
   rw[eN]
   exact .inr ⟨_,rfl,fun s' h=>by simp at h,.inr ⟨_,rfl⟩⟩) (s:=0) rfl (o8 _ (by omega))
 rcases hQ with rfl | ⟨s,rfl⟩
 ·exact ⟨_,bM e⟩
 ·exact ⟨_,ai e⟩
end D
namespace D
open Go.RowKit
theorem NI (xs:List Pr) (hl:xs.length<=1073741824):bZ xs=some (nub xs):=by
 unfold bZ
 by_cases h2:xs.length<2
 ·rw[if_pos (by simp;omega)]
  cases xs with
  | nil=>rfl
  | cons a l =>
   cases l with
   | nil=>rfl
   | cons b l=>simp only[aB] at h2;omega
 rw[if_neg (by simp;omega)]
 have key:(ax (bq xs) aR 1=some (.ret (nub xs)))\/(∃s,ax (bq xs) aR 1=some (.brk s)/\nub xs=xs):=by
  obtain ⟨o,e,hQ⟩:=cj (f:=bq xs) (fun t s=>s=((t+1:Nat):Int)/\nub (xs.take (t+1))=xs.take (t+1)) (fun o=>o= .ret (nub xs)\/ ∃s,o= .brk s/\nub xs=xs) (xs.length - 1) (fun t s ht hI=>by
   obtain ⟨rfl,hI⟩:=hI
   unfold bq
   by_cases h1:t+1<xs.length
   ·have hp:((t+1:Nat):Int) - 1=((t:Nat):Int):=by omega
    rw[fg h1,if_pos rfl,aZ h1,cZ (n:=((t+1:Nat):Int) - 1) (by omega) (by omega),hp,aZ (show t<xs.length by omega)]
    simp only[aa,Zz]
    have hn:=CG (xs:=xs) (j:=t+1) (by omega) h1
    rw[hI] at hn
    simp only[Nat.add_sub_cancel] at hn
    by_cases he:xs[t+1] =xs[t]
    ·rw[if_pos (decide_eq_true he),Gq (by omega),aa]
     rw[if_pos he.symm] at hn
     have hlt:(xs.take (t+1)).length=t+1:=by rw[aF];omega
     obtain ⟨s,e1,ys,rfl,k1,k2,k3,k4⟩:=a7 (f:=bQ xs ((t+1:Nat):Int)) (fun u s=> ∃ys:List Pr,s=(((nub (xs.take (t+2+u))).length:Int),((u+1:Nat):Int),ys)/\ys.length=xs.length/\ys.take (nub (xs.take (t+2+u))).length=nub (xs.take (t+2+u))/\ys.drop (t+1+u)=xs.drop (t+1+u)/\(nub (xs.take (t+2+u))).length<=t+1+u) (xs.length - (t+2)) (fun u s hu hI=>by
      obtain ⟨ys,rfl,k1,k2,k3,k4⟩:=hI
      have hj:t+2+u<xs.length:=by clear k4 k2;omega
      have hj1:t+1+u<xs.length:=by clear k4 k2;omega
      have hj2:t+2+u<ys.length:=by clear k4 k2;omega
      have hj3:t+1+u<ys.length:=by clear k4 k2;omega
      have a1:(0+((t+1:Nat):Int))+((u+1:Nat):Int)=((t+2+u:Nat):Int):=by omega
      have a2:((u+1:Nat):Int) - 1=((u:Nat):Int):=by omega
      have a3:(0+((t+1:Nat):Int))+((u:Nat):Int)=((t+1+u:Nat):Int):=by omega
      unfold bQ
      dsimp only
      rw[if_pos (by simp;omega),Gq (by omega)]
      simp only[aa]
      rw[cZ (n:=((u+1:Nat):Int) - 1) (by omega) (by omega),a1,a2,a3,aZ (xs:=ys) hj2,aZ (xs:=ys) hj3,Gq (by omega),Ia k3 (by omega) hj2 hj,Ia k3 (ay _) hj3 hj1]
      simp only[aa,Zz,jB]
      have e9:t+2+u - 1=t+1+u:=by clear k4 k2;omega
      have e8:0<t+2+u:=by clear k4 k2;omega
      have hnx:=CG (xs:=xs) (j:=t+2+u) e8 hj
      simp only[e9] at hnx
      have hd:=Nu k3
      rw[show t+1+u+1=t+1+(u+1) from by omega] at hd
      rw[show t+2+(u+1)=t+2+u+1 from by omega,hnx]
      generalize nub (xs.take (t+2+u))=K at *
      by_cases hq:xs[t+2+u] =xs[t+1+u]
      ·rw[if_pos (decide_eq_true hq),if_pos hq.symm]
       simp only[aa]
       rw[af (by omega)]
       exact ⟨_,rfl,ys,rfl,k1,k2,hd,by omega⟩
      ·rw[if_neg (by simpa using hq),if_neg (fun e=>hq e.symm),aZ (xs:=ys) (show K.length<ys.length by omega)]
       simp only[aa]
       rw[af (by omega),af (by omega)]
       refine ⟨_,rfl,ys.set K.length xs[t+2+u],?_,by simpa using k1,?_,?_,?_⟩
       ·rw[al,List.length_singleton];rfl
       ·rw[al,List.length_singleton,Q9 (by omega),k2]
       ·rw[set_drop (by omega)];exact hd
       ·rw[al,List.length_singleton];omega) (fun s hI=>by
      obtain ⟨ys,rfl,k1,k2,k3,k4⟩:=hI
      unfold bQ
      rw[if_neg (by simp;omega)]) (s:=(((t+1:Nat):Int),1,xs)) ⟨xs,by rw[Nat.add_zero,hn,hlt];rfl,rfl,by rw[Nat.add_zero,hn,hlt],rfl,by rw[Nat.add_zero,hn,hlt];omega⟩ (o8 _ (by omega))
     refine .inr ⟨.ret (nub xs),?_,fun s' hh=>(by simp at hh),.inl rfl⟩
     rw[ai e1]
     have hall:xs.take (t+2+(xs.length - (t+2)))=xs:=List.take_of_length_le (by omega)
     rw[hall] at k2 k4⊢
     generalize nub xs=K at *
     have q0:K.length<=ys.length:=by omega
     have z1:((0:Int)+((K.length:Nat):Int)).toNat=K.length:=by omega
     have z2:((0:Int)+(((ys.length:Nat):Int) - 0)).toNat=ys.length:=by omega
     simp only[z1,z2]
     have zl:=Nt (z:=((0,0):Pr)) q0
     rw[Gq (by omega),aa,Gq (by omega),aa,Gq (by rw[zl];omega),aa,JT q0,k2,List.drop_zero]
    ·rw[if_neg (by simpa using he),af (by omega)]
     rw[if_neg (fun e=>he e.symm),<-List.take_succ_eq_append_getElem h1] at hn
     exact .inl ⟨by omega,_,rfl,rfl,hn⟩
   ·refine .inr ⟨.brk ((t+1:Nat):Int),?_,fun s' hh=>(by simp at hh),.inr ⟨_,rfl,?_⟩⟩
    ·rw[if_neg (by simp;omega)]
    ·rw[List.take_of_length_le (by omega)] at hI;exact hI) (s:=1) ⟨rfl,If 1 (by omega) (fun q h1 h0=>by omega)⟩ (o8 _ (by omega))
  rcases hQ with rfl | ⟨s,rfl,h⟩
  ·exact .inl e
  ·exact .inr ⟨s,e,h⟩
 rcases key with e | ⟨s,e,h⟩
 ·rw[bM e]
 ·rw[ai e,h]
def XI (l:List Pr):List Pr:=nub (R.Jx R.Jy l)
theorem Rc (l:List Pr):(R.Jx R.Jy l).Pairwise (fun a b=> ¬ltP b a):=by
 have hle: ∀a b:Pr,(!(ltOf R.Jy b a))=true↔ ¬ltP b a:=fun a b=>by
  rw[Bool.not_eq_true',R.xp];rfl
 have h:=List.pairwise_mergeSort (le:=fun x y=> !(ltOf R.Jy y x)) (fun a b c h1 h2=>by
  rw[hle] at *
  intro h
  unfold ltP at *
  omega) (fun a b=>by
  rw[Bool.or_eq_true,hle,hle]
  unfold ltP
  omega) l
 exact h.imp fun {a b} h=>(hle a b).1 h
theorem Ig (l:List Pr):Str (XI l):=Gv (Rc l)
theorem Ih {l:List Pr} {x:Pr} :x∈XI l↔x∈l:=by
 unfold XI
 rw[CE]
 exact List.mem_mergeSort
theorem Ii (l:List Pr) (hl:l.length<=268435456):jA l=some (XI l):=by
 unfold jA df R.QJ
 rw[aJ (by simp only[aA];omega)]
 simp only[aa,List.nil_append]
 rw[Gq (by omega)]
 simp only[aa]
 rw[NI _ (by rw[R.D7];omega)]
 rfl
theorem zo (l:List Pr):XI l=puts [] l:=vd (Ig l) (nX List.Pairwise.nil) fun x=>by rw[Ih,jy];simp
theorem Vm {a b:List Pr} (ha:a.length<=67108864) (hb:b.length<=67108864):gI a b=some (puts [] (a++b)):=by
 unfold gI
 rw[aJ (by simp only[aA];omega)]
 simp only[aa,List.nil_append]
 rw[aJ (by omega)]
 simp only[aa]
 rw[Ii _ (by rw[al];omega),zo];rfl
end D
namespace D
open Go.RowKit
abbrev GrT:=(List Int)×(List Yq1)
theorem XJ {R:Type} {f:Int->Option (Out R Int)} (N:Nat) (p:Nat->Prop) [DecidablePred p] (r:R) (hN:N<=9223372036854775807)
  (h: ∀i:Nat,i<N->f (i:Int)=some (if p i then .nxt ((i+1:Nat):Int) else .ret r)) (he:f (N:Int)=some (.brk (N:Int))) :
  (ax f aR 0=some (.brk (N:Int))/\ ∀i,i<N->p i)\/(ax f aR 0=some (.ret r)/\ ¬ ∀i,i<N->p i):=by
 obtain ⟨o,e,hq⟩:=cj (f:=f) (fun i s=>s=(i:Int)/\ ∀j:Nat,j<i->p j) (fun o=>(o= .brk (N:Int)/\ ∀i,i<N->p i)\/(o= .ret r/\ ¬ ∀i,i<N->p i)) N (s:=0) (by
  rintro i s hi ⟨rfl,hp⟩
  by_cases hl:i<N
  ·by_cases c:p i
   ·refine .inl ⟨hl,_,by rw[h i hl,if_pos c],rfl,fun j hj=>?_⟩
    by_cases e:j=i
    ·subst e;exact c
    ·exact hp j (by omega)
   ·exact .inr ⟨_,by rw[h i hl,if_neg c],(fun s' e=>by cases e),.inr ⟨rfl,fun hx=>c (hx i hl)⟩⟩
  ·obtain rfl:i=N:=by omega
   exact .inr ⟨_,he,(fun s' e=>by cases e),.inl ⟨rfl,hp⟩⟩) ⟨rfl,by omega⟩ (fW hN)
 rcases hq with ⟨rfl,hq⟩ | ⟨rfl,hq⟩
 ·exact .inl ⟨e,hq⟩
 ·exact .inr ⟨e,hq⟩
structure GOk (g:GrT):Prop where
 n1:1<=g.1.length
 n5:g.1.length<=5
 m:g.2.length<=12
 val: ∀v∈g.1,0<=v/\v<=2
 edge: ∀e∈g.2,(0<=e.2.1/\e.2.1<g.1.length)/\(0<=e.2.2.1/\e.2.2.1<g.1.length)/\0<=e.2.2.2/\e.2.2.2<=2
 asc: ∀i:Nat,i+1<g.2.length->(nth g.2 i).1<(nth g.2 ((i+1:Nat):Int)).1
def edgeP (e:Int×Int×Int×Int) (n:Int):Prop:=(1<=e.1/\e.1<=99)/\(0<=e.2.1/\e.2.1<=n - 1)/\(0<=e.2.2.1/\e.2.2.1<=n - 1)/\0<=e.2.2.2/\e.2.2.2<=2
instance (e n):Decidable (edgeP e n):=by unfold edgeP;infer_instance
theorem XK (e:Int×Int×Int×Int) {n:Nat} (hn:n<=1048576):oK e (n:Int)=some (decide (edgeP e n)):=by
 unfold oK edgeP
 simp only[E6,aa,lD (show n<=9223372036854775807 by omega)]
 by_cases c1:1<=e.1/\e.1<=99 <;> by_cases c2:0<=e.2.1/\e.2.1<=(n:Int) - 1 <;> by_cases c3:0<=e.2.2.1/\e.2.2.1<=(n:Int) - 1 <;> simp[c1,c2,c3]
def aat (g:GrT):Prop:=GOk g/\ ∀e∈g.2,1<=e.1/\e.1<=99
theorem Re (g:GrT) (h1:g.1.length<=1048576) (h2:g.2.length<=1048576): ∃b,aQ g=some b/\(b=true↔aat g):=by
 unfold aQ
 have k0:=XJ (f:=eB g) g.1.length (fun i=>0<=nth g.1 i/\nth g.1 i<=2) false (by omega) (fun i hi=>by
  unfold eB
  rw[if_pos (by simp;omega),aG (by omega) (by omega)];simp only[aa,E6,decide_eq_true_eq]
  split
  ·rw[af (by omega)]
  ·rfl) (by unfold eB;rw[if_neg (by simp)])
 have k1:=XJ (f:=de g) g.2.length (fun i=>edgeP (nth g.2 i) g.1.length/\(0<i->(nth g.2 ((i:Int) - 1)).1<(nth g.2 i).1)) false (by omega) (fun i hi=>by
  unfold de
  rw[if_pos (by simp;omega),aG (by omega) (by omega)];simp only[aa]
  have e1:=XK (nth g.2 (i:Int)) h1
  have e1:oK ((nth g.2 (i:Int)).1,(nth g.2 (i:Int)).2.1,(nth g.2 (i:Int)).2.2.1,(nth g.2 (i:Int)).2.2.2) (g.1.length:Int)=_:=e1
  rw[e1];simp only[aa,decide_eq_true_eq]
  by_cases c1:edgeP (nth g.2 (i:Int)) g.1.length
  ·rw[if_pos c1]
   by_cases c2:0<i
   ·rw[if_pos (by omega),lD (by omega),aG (by omega) (by omega)];simp only[aa]
    by_cases c3:(nth g.2 ((i:Int) - 1)).1<(nth g.2 (i:Int)).1
    ·rw[if_neg (by omega),if_pos ⟨c1,fun _=>c3⟩,af (by omega)]
    ·rw[if_pos (by omega),if_neg (fun h=>c3 (h.2 c2))]
   ·rw[if_neg (by omega),if_pos ⟨c1,fun h=>absurd h c2⟩,af (by omega)]
  ·rw[if_neg c1,if_neg (fun h=>c1 h.1)]) (by unfold de;rw[if_neg (by simp)])
 rcases k0 with ⟨k0,j0⟩ | ⟨k0,j0⟩
 ·rw[ai k0]
  rcases k1 with ⟨k1,j1⟩ | ⟨k1,j1⟩
  ·rw[ai k1,E6];simp only[aa,decide_eq_true_eq]
   split
   ·rename_i c
    refine ⟨_,rfl,fun hb=>?_,fun G=>decide_eq_true (by have:=G.1.m;omega)⟩
    have hb:=of_decide_eq_true hb
    refine ⟨⟨by omega,by omega,by omega,fun v hv=>?_,fun e he=>?_,fun i hi=>?_⟩,fun e he=>?_⟩
    rotate_left 3
    ·obtain ⟨i,hi,rfl⟩:=zf he
     exact (j1 i hi).1.1
    ·obtain ⟨i,hi,rfl⟩:=zf hv
     exact j0 i hi
    ·obtain ⟨i,hi,rfl⟩:=zf he
     obtain ⟨a1,a2,a3,a4⟩:=(j1 i hi).1
     exact ⟨⟨a2.1,by omega⟩,⟨a3.1,by omega⟩,a4⟩
    ·have:=(j1 (i+1) hi).2 (by omega)
     rwa [show (((i+1:Nat):Int) - 1)=(i:Int) from by omega] at this
   ·rename_i c
    exact ⟨false,rfl,(fun h=>by cases h),fun G=>absurd (by have:=G.1.n1;have:=G.1.n5;omega) c⟩
  ·rw[bM k1]
   refine ⟨false,rfl,(fun h=>by cases h),fun G=>absurd (fun i hi=>?_) j1⟩
   have hm:=cO (xs:=g.2) (i:=(i:Int)) (by omega) (by omega)
   obtain ⟨e1,e2,e3,e4⟩:=G.1.edge _ hm
   refine ⟨⟨G.2 _ hm,⟨e1.1,by omega⟩,⟨e2.1,by omega⟩,e3,e4⟩,fun h0=>?_⟩
   have:=G.1.asc (i - 1) (by omega)
   rwa [show ((i - 1:Nat):Int)=(i:Int) - 1 from by omega,show (((i - 1)+1:Nat):Int)=(i:Int) from by omega] at this
 ·rw[bM k0]
  exact ⟨false,rfl,(fun h=>by cases h),fun G=>absurd (fun i hi=>G.1.val _ (cO (by omega) (by omega))) j0⟩
theorem xy (g:GrT) (h1:g.1.length<=1048576) (h2:g.2.length<=1048576): ∃b,aQ g=some b/\(b=true->GOk g):=by
 obtain ⟨b,h1,h2⟩:=Re g h1 h2
 exact ⟨b,h1,fun h=>(h2.1 h).1⟩
end D
namespace D
open Go.RowKit
theorem Ij {p:Prop} [Decidable p] (h:p):chk p=some ():=by unfold chk;rw[if_pos h]
section
variable {a:AutT} {n:Nat} (V:VA a n) (hn:n<=12)
include V hn
end
section
variable {a:AutT} {n:Nat} (V:VA a n) (hn:n<=12)
include V hn
end
section
variable {a:AutT} {n:Nat} (V:VA a n) (hn:n<=12)
include V
include hn
end
end D
namespace D
open Go.RowKit
def rm {α:Type} (N:Nat) (F:Nat->α):List α:=(List.range N).map F
section
variable {α:Type} {N:Nat} {F G:Nat->α}
theorem Ey:(rm N F).length=N:=by simp[rm]
theorem Rf (h: ∀z,z<N->F z=G z):rm N F=rm N G:=by
 unfold rm
 exact List.map_congr_left fun z hz=>h z (List.mem_range.1 hz)
theorem Gw {c:Nat} (h:c<N):aK (rm N F) (c:Int)=some (F c):=by
 rw[aZ (by rw[Ey];exact h)]
 simp[rm]
theorem SG {c:Nat} {v:α} :(rm N F).set c v=rm N fun z=>if z=c then v else F z:=by
 refine List.ext_getElem (by simp[rm]) fun i h1 h2=>?_
 simp only[rm,List.getElem_set,List.getElem_map,List.getElem_range]
 by_cases e:c=i
 ·subst e;simp
 ·rw[if_neg e,if_neg (fun h=>e h.symm)]
theorem Vn {xs:List α} [Inhabited α] {k:Nat} (h:k<xs.length):xs.take (k+1)=xs.take k++ [nth xs (k:Int)]:=by
 rw[List.take_add_one,br h];simp[h]
end
theorem XL {α:Type} {b n:Nat} {z:α} (h:n*b<=140737488355328):mkI b (n:Int) z=some (rm n fun _=>z):=by
 have:rm n (fun _=>z)=List.replicate n z:=by
  unfold rm;exact List.ext_getElem (by simp) fun i h1 h2=>by simp
 rw[this,Xm h]
abbrev EdT:=Int×Int×Int×Int
abbrev ArT:=(Int×Bool)×Int×Int
def fwd (e:EdT):ArT:=((e.1,false),2*e.2.2.2,e.2.2.1)
def inv (e:EdT):ArT:=((e.1,true),2*e.2.2.2+1,e.2.1)
def NJ (e:EdT) (x:Int):List ArT:=(if e.2.1=x then [fwd e] else [])++(if e.2.2.1=x then [inv e] else [])
def arcL (es:List EdT) (x:Nat):List ArT:=es.flatMap fun e=>NJ e x
theorem Rg (e:EdT) (x:Int):(NJ e x).length<=2:=by
 unfold NJ;rw[al];split <;> split <;> simp
theorem ve {α β:Type} {f:α->List β} {B:Nat} : ∀ {xs:List α},(∀x∈xs,(f x).length<=B)->(xs.flatMap f).length<=B*xs.length
 | [],_=>by simp
 | x::xs,h=>by
  rw[List.flatMap_cons,al,aB,Nat.mul_add]
  have:=h x (by simp)
  have:=ve (xs:=xs) fun y hy=>h y (by simp[hy])
  omega
theorem xz (es:List EdT) (x:Nat):(arcL es x).length<=2*es.length:=ve fun e _=>Rg e x
theorem NK (e:EdT) (h:0<=e.2.2.2/\e.2.2.2<=2) (b:Bool):qO e b=some (if b then 2*e.2.2.2+1 else 2*e.2.2.2):=by
 unfold qO
 rw[cZ (n:=2*e.2.2.2) (by omega) (by omega),cZ (by omega) (by omega)]
 cases b <;> rfl
theorem XM {g:GrT} (G:GOk g):xq g=some (rm g.1.length (arcL g.2)):=by
 unfold xq
 rw[XL (by have:=G.n5;omega)];simp only[aa]
 have:=aP (f:=mU g) (fun i=>((i:Int),rm g.1.length (arcL (g.2.take i)))) g.2.length (fun i hi=>by
  unfold mU
  simp only
  have hm:=G.m
  obtain ⟨⟨a1,a2⟩,⟨b1,b2⟩,c1⟩:=G.edge _ (cO (xs:=g.2) (i:=(i:Int)) (by omega) (by omega))
  rw[if_pos (by simp;omega),aG (by omega) (by omega)];simp only[aa]
  generalize he:nth g.2 (i:Int)=e at a1 a2 b1 b2 c1
  obtain ⟨id,fr,to,lb⟩:=e
  obtain ⟨p,rfl⟩: ∃p:Nat,fr=(p:Int):=⟨fr.toNat,by simp only at a1;omega⟩
  obtain ⟨q,rfl⟩: ∃q:Nat,to=(q:Int):=⟨to.toNat,by simp only at b1;omega⟩
  simp only at a1 a2 b1 b2 c1
  have hp:p<g.1.length:=by omega
  have hq:q<g.1.length:=by omega
  have r1:=NK (id,(p:Int),(q:Int),lb) c1 false
  have r2:=NK (id,(p:Int),(q:Int),lb) c1 true
  have l1:=xz (g.2.take i) p
  have l2:=xz (g.2.take i) q
  have l3:(g.2.take i).length<=12:=by rw[aF];omega
  simp only[Gw hp,Gw hq,aa,r1,r2,Int.toNat_natCast,SG,Bool.false_eq_true,if_false,if_true]
  rw[aJ (by simp;omega)];simp only[aa,SG]
  rw[Ij (by rw[Ey];omega),Ij trivial];simp only[aa]
  rw[aJ (by split <;> simp <;> omega)];simp only[aa]
  rw[Ij (by rw[Ey];omega)];simp only[aa]
  try rw[Ij rfl];simp only[aa]
  rw[af (by omega)]
  congr 3
  refine Rf fun z hz=>?_
  rw[Vn hi,he]
  unfold arcL
  rw[List.flatMap_append]
  simp only[List.flatMap_cons,List.flatMap_nil,List.append_nil,NJ]
  by_cases e1:z=q
  ·subst e1
   by_cases e2:z=p
   ·subst e2;simp[fwd,inv]
   ·simp[e2,fwd,inv,show¬((p:Int)=(z:Int)) from by omega]
  ·by_cases e2:z=p
   ·subst e2;simp[e1,fwd,inv,show¬((q:Int)=(z:Int)) from by omega]
   ·simp[e1,e2,show¬((p:Int)=(z:Int)) from by omega,show¬((q:Int)=(z:Int)) from by omega]) (by unfold mU;simp) (fW (by have:=G.m;omega))
 have this:ax (mU g) aR (0,rm g.1.length fun _=>[])=_:=this
 rw[this,List.take_length];rfl
end D
end Go.Proofs.YtfbgafccgaoepaaGreat
