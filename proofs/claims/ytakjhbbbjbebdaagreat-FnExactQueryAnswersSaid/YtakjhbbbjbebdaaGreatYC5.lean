/- FnExactQueryAnswers: for every input the law returns true and changes nothing that was there. Part 6 of 7. -/
import Derived.Test.YtakjhbbbjbebdaaGreatYC4
set_option linter.unusedVariables false
set_option linter.unusedSimpArgs false
set_option linter.unnecessarySimpa false
set_option linter.unusedSectionVars false
set_option maxRecDepth 1000000
namespace Go.Proofs.YtakjhbbbjbebdaaGreat
namespace R
open Go.RowKit
open D
theorem DU:FOk Tryz.prog 171 wH:=fok (V:=⟨tt,[(92,mc)],[],50,[]⟩) al ⟨nQ,trivial⟩ mixed Tryz.func171 rfl rfl (enters_of Tryz.func171 (by kernel_rfl) rfl) rfl (Nat.le_of_ble_eq_true rfl) rfl (.two .no (.two .no (.two .no (.two (.two .no (.loop [.slot 4 (.num .i64)] (.two .no (.two (.two .no (.two .no (.loop [.slot 5 (.num .i64)] .no))) .no)))) .no)))) (fun d=>by kernel_rfl)
theorem qe:FOk Tryz.prog 131 kG:=fok (V:=⟨tt,[(171,wH)],[],11,[]⟩) al ⟨DU,trivial⟩ mixed Tryz.func131 rfl rfl (enters_of Tryz.func131 (by kernel_rfl) rfl) rfl (Nat.le_of_ble_eq_true rfl) rfl .no (fun d=>by kernel_rfl)
theorem DV:FOk Tryz.prog 94 wI:=fok (V:=⟨tt,[(48,kA),(92,mc),(131,kG)],[],31,[]⟩) al ⟨oo,nQ,qe,trivial⟩ mixed Tryz.func94 rfl rfl (enters_of Tryz.func94 (by kernel_rfl) rfl) rfl (Nat.le_of_ble_eq_true rfl) rfl .no (fun d=>by kernel_rfl)
theorem qB:FOk Tryz.prog 173 mE:=fok (V:=⟨tt,[],[],31,[]⟩) al trivial mixed Tryz.func173 rfl rfl (enters_of Tryz.func173 (by kernel_rfl) rfl) rfl (Nat.le_of_ble_eq_true rfl) rfl (.two .no (.two .no (.two (.loop [.slot 1 (.num .i64),.slot 7 (.num .i64)] .no) .no))) (fun d=>by kernel_rfl)
theorem GR:FOk Tryz.prog 202 yT:=fok (V:=⟨tt,[],[],52,[]⟩) al trivial mixed Tryz.func202 rfl rfl (enters_of Tryz.func202 (by kernel_rfl) rfl) rfl (Nat.le_of_ble_eq_true rfl) rfl (.two .no (.two .no (.two (.two .no (.loop [.slot 5 (.own 203 Qh),.slot 6 (.num .i64)] (.two .no (.join [.slot 5 (.own 203 Qh)] (.join [.slot 5 (.own 203 Qh)] .no .no) .no)))) .no))) (fun d=>by kernel_rfl)
theorem Aj:FOk Tryz.prog 203 se:=fok (V:=⟨tt,[],[],22,[]⟩) al trivial mixed Tryz.func203 rfl rfl (enters_of Tryz.func203 (by kernel_rfl) rfl) rfl (Nat.le_of_ble_eq_true rfl) rfl (.two .no (.two (.two .no (.loop [.slot 5 (.num .i64)] .no)) .no)) (fun d=>by kernel_rfl)
theorem Ak:FOk Tryz.prog 204 sf:=fok (V:=⟨tt,[],[],13,[]⟩) al trivial mixed Tryz.func204 rfl rfl (enters_of Tryz.func204 (by kernel_rfl) rfl) rfl (Nat.le_of_ble_eq_true rfl) rfl .no (fun d=>by kernel_rfl)
theorem Jy:FOk Tryz.prog 205 Cd:=fok (V:=⟨tt,[],[],10,[]⟩) al trivial mixed Tryz.func205 rfl rfl (enters_of Tryz.func205 (by kernel_rfl) rfl) rfl (Nat.le_of_ble_eq_true rfl) rfl .no (fun d=>by kernel_rfl)
theorem Cp:FOk Tryz.prog 172 ur:=fok (V:=⟨tt,[(173,mE),(202,yT),(203,se),(204,sf),(205,Cd)],[],110,[]⟩) al ⟨qB,GR,Aj,Ak,Jy,trivial⟩ mixed Tryz.func172 rfl rfl (enters_of Tryz.func172 (by kernel_rfl) rfl) rfl (Nat.le_of_ble_eq_true rfl) rfl (.two .no (.two .no (.two .no (.two .no (.two (.two .no (.loop [.slot 9 (.own 205 RV),.slot 12 (.num .i64)] (.two .no (.two (.two .no (.two .no (.two (.two .no (.loop [.slot 14 (.num .i64),.slot 15 (.num .i64)] (.two .no (.join [.slot 14 (.num .i64)] .no .no)))) (.two .no (.loop [.slot 9 (.own 205 RV),.slot 17 (.num .i64)] (.two .no (.join [.slot 9 (.own 205 RV)] .no .no))))))) .no)))) .no))))) (fun d=>by kernel_rfl)
theorem Cq:FOk Tryz.prog 132 uu:=fok (V:=⟨tt,[(172,ur)],[],104,[]⟩) al ⟨Cp,trivial⟩ mixed Tryz.func132 rfl rfl (enters_of Tryz.func132 (by kernel_rfl) rfl) rfl (Nat.le_of_ble_eq_true rfl) rfl (.two .no (.two .no (.two .no (.two (.two .no (.loop [.slot 8 (.own 3 y3),.slot 9 (.num .i64)] .no)) (.two .no (.two .no (.two (.two .no (.loop [.row 8 3 y3,.slot 10 (.own 3 y3),.slot 11 (.num .i64)] (.two .no (.two (.two .no (.two .no (.loop [.row 8 3 y3,.slot 10 (.own 3 y3),.slot 13 (.num .i64)] (.two .no (.join [.row 8 3 y3,.slot 10 (.own 3 y3)] .no .no))))) .no)))) .no))))))) (fun d=>by kernel_rfl)
theorem xU:FOk Tryz.prog 133 qq:=fok (V:=⟨tt,[(173,mE)],[],38,[]⟩) al ⟨qB,trivial⟩ mixed Tryz.func133 rfl rfl (enters_of Tryz.func133 (by kernel_rfl) rfl) rfl (Nat.le_of_ble_eq_true rfl) rfl (.two .no (.two .no (.two (.two .no (.loop [.slot 10 (.num .i64)] .no)) .no))) (fun d=>by kernel_rfl)
theorem Jz:FOk Tryz.prog 134 Ce:=fok (V:=⟨tt,[],[],20,[]⟩) al trivial mixed Tryz.func134 rfl rfl (enters_of Tryz.func134 (by kernel_rfl) rfl) rfl (Nat.le_of_ble_eq_true rfl) rfl (.two .no (.two .no (.two (.two .no (.loop [.slot 3 (.own 3 y3),.slot 4 (.num .i64)] (.two .no (.join [.slot 3 (.own 3 y3)] .no .no)))) .no))) (fun d=>by kernel_rfl)
theorem DW:FOk Tryz.prog 95 wJ:=fok (V:=⟨tt,[(132,uu),(133,qq),(134,Ce)],[],48,[]⟩) al ⟨Cq,xU,Jz,trivial⟩ mixed Tryz.func95 rfl rfl (enters_of Tryz.func95 (by kernel_rfl) rfl) rfl (Nat.le_of_ble_eq_true rfl) rfl (.two .no (.two .no (.two .no (.two .no (.two (.two .no (.loop [.slot 9 (.num .i64),.slot 10 (.num .i64)] (.two .no (.join [.slot 9 (.num .i64)] .no .no)))) .no))))) (fun d=>by kernel_rfl)
theorem xV:FOk Tryz.prog 49 qu:=fok (V:=⟨tt,[(94,wI),(95,wJ)],[],42,[]⟩) al ⟨DV,DW,trivial⟩ mixed Tryz.func49 rfl rfl (enters_of Tryz.func49 (by kernel_rfl) rfl) rfl (Nat.le_of_ble_eq_true rfl) rfl (.two .no (.two .no (.two (.two .no (.loop [.slot 5 (.own 103 MJ),.slot 6 (.num .i64)] (.two .no (.two (.two .no (.two .no (.loop [.slot 5 (.own 103 MJ),.slot 8 (.num .i64)] .no))) .no)))) .no))) (fun d=>by kernel_rfl)
theorem uM:FOk Tryz.prog 10 n8:=fok (V:=⟨tt,[(47,mi),(48,kA),(49,qu)],[],27,[]⟩) al ⟨sw,oo,xV,trivial⟩ mixed Tryz.func10 rfl rfl (enters_of Tryz.func10 (by kernel_rfl) rfl) rfl (Nat.le_of_ble_eq_true rfl) rfl .no (fun d=>by kernel_rfl)
theorem DX:FOk Tryz.prog 135 wK:=fok (V:=⟨tt,[],[],22,[]⟩) al trivial mixed Tryz.func135 rfl rfl (enters_of Tryz.func135 (by kernel_rfl) rfl) rfl (Nat.le_of_ble_eq_true rfl) rfl (.two .no (.two .no (.two (.two .no (.loop [.row 3 4 y4,.slot 4 (.num .i64)] .no)) .no))) (fun d=>by kernel_rfl)
theorem zb:FOk Tryz.prog 52 tx:=fok (V:=⟨tt,[],[],22,[]⟩) al trivial mixed Tryz.func52 rfl rfl (enters_of Tryz.func52 (by kernel_rfl) rfl) rfl (Nat.le_of_ble_eq_true rfl) rfl (.two .no (.two .no (.two (.two .no (.loop [.row 3 3 y3,.slot 4 (.num .i64)] .no)) .no))) (fun d=>by kernel_rfl)
end R
namespace R
open Go.RowKit
open D
theorem DY:FOk Tryz.prog 136 wL:=fok (V:=⟨tt,[(52,tx)],[],23,[]⟩) al ⟨zb,trivial⟩ mixed Tryz.func136 rfl rfl (enters_of Tryz.func136 (by kernel_rfl) rfl) rfl (Nat.le_of_ble_eq_true rfl) rfl (.two .no (.two .no (.two (.two .no (.loop [.row 3 26 y26,.slot 4 (.num .i64)] .no)) .no))) (fun d=>by kernel_rfl)
theorem w8:FOk Tryz.prog 96 o8:=fok (V:=⟨tt,[(135,wK),(136,wL)],[],16,[]⟩) al ⟨DX,DY,trivial⟩ mixed Tryz.func96 rfl rfl (enters_of Tryz.func96 (by kernel_rfl) rfl) rfl (Nat.le_of_ble_eq_true rfl) rfl .no (fun d=>by kernel_rfl)
theorem uN:FOk Tryz.prog 50 n9:=fok (V:=⟨tt,[(96,o8)],[],23,[]⟩) al ⟨w8,trivial⟩ mixed Tryz.func50 rfl rfl (enters_of Tryz.func50 (by kernel_rfl) rfl) rfl (Nat.le_of_ble_eq_true rfl) rfl (.two .no (.two .no (.two (.two .no (.loop [.row 3 92 y92,.slot 4 (.num .i64)] .no)) .no))) (fun d=>by kernel_rfl)
theorem DZ:FOk Tryz.prog 206 wM:=fok (V:=⟨tt,[],[],17,[]⟩) al trivial mixed Tryz.func206 rfl rfl (enters_of Tryz.func206 (by kernel_rfl) rfl) rfl (Nat.le_of_ble_eq_true rfl) rfl .no (fun d=>by kernel_rfl)
theorem Cr:FOk Tryz.prog 174 uv:=fok (V:=⟨tt,[(206,wM)],[],23,[]⟩) al ⟨DZ,trivial⟩ mixed Tryz.func174 rfl rfl (enters_of Tryz.func174 (by kernel_rfl) rfl) rfl (Nat.le_of_ble_eq_true rfl) rfl (.two .no (.two .no (.two (.two .no (.loop [.row 3 188 ui,.slot 4 (.num .i64)] .no)) .no))) (fun d=>by kernel_rfl)
theorem GS:FOk Tryz.prog 137 yU:=fok (V:=⟨tt,[(174,uv)],[],9,[]⟩) al ⟨Cr,trivial⟩ mixed Tryz.func137 rfl rfl (enters_of Tryz.func137 (by kernel_rfl) rfl) rfl (Nat.le_of_ble_eq_true rfl) rfl .no (fun d=>by kernel_rfl)
theorem uO:FOk Tryz.prog 97 oc:=fok (V:=⟨tt,[(137,yU)],[],15,[]⟩) al ⟨GS,trivial⟩ mixed Tryz.func97 rfl rfl (enters_of Tryz.func97 (by kernel_rfl) rfl) rfl (Nat.le_of_ble_eq_true rfl) rfl .no (fun d=>by kernel_rfl)
theorem tE:FOk Tryz.prog 51 mU:=fok (V:=⟨tt,[(97,oc)],[],23,[]⟩) al ⟨uO,trivial⟩ mixed Tryz.func51 rfl rfl (enters_of Tryz.func51 (by kernel_rfl) rfl) rfl (Nat.le_of_ble_eq_true rfl) rfl (.two .no (.two .no (.two (.two .no (.loop [.row 3 146 Cc,.slot 4 (.num .i64)] .no)) .no))) (fun d=>by kernel_rfl)
theorem xW:FOk Tryz.prog 11 qv:=fok (V:=⟨tt,[(50,n9),(51,mU)],[],13,[]⟩) al ⟨uN,tE,trivial⟩ mixed Tryz.func11 rfl rfl (enters_of Tryz.func11 (by kernel_rfl) rfl) rfl (Nat.le_of_ble_eq_true rfl) rfl .no (fun d=>by kernel_rfl)
theorem GT:FOk Tryz.prog 98 yV:=fok (V:=⟨tt,[],[],17,[]⟩) al trivial mixed Tryz.func98 rfl rfl (enters_of Tryz.func98 (by kernel_rfl) rfl) rfl (Nat.le_of_ble_eq_true rfl) rfl .no (fun d=>by kernel_rfl)
theorem D0:FOk Tryz.prog 53 wN:=fok (V:=⟨tt,[(98,yV)],[],23,[]⟩) al ⟨GT,trivial⟩ mixed Tryz.func53 rfl rfl (enters_of Tryz.func53 (by kernel_rfl) rfl) rfl (Nat.le_of_ble_eq_true rfl) rfl (.two .no (.two .no (.two (.two .no (.loop [.row 3 150 Hv,.slot 4 (.num .i64)] .no)) .no))) (fun d=>by kernel_rfl)
theorem D1:FOk Tryz.prog 12 wO:=fok (V:=⟨tt,[(52,tx),(53,wN)],[],13,[]⟩) al ⟨zb,D0,trivial⟩ mixed Tryz.func12 rfl rfl (enters_of Tryz.func12 (by kernel_rfl) rfl) rfl (Nat.le_of_ble_eq_true rfl) rfl .no (fun d=>by kernel_rfl)
theorem eb:FOk Tryz.prog 138 bN:=fok (V:=⟨tt,[],[],19,[]⟩) al trivial mixed Tryz.func138 rfl rfl (enters_of Tryz.func138 (by kernel_rfl) rfl) rfl (Nat.le_of_ble_eq_true rfl) rfl (.two .no (.two (.two .no (.loop [.slot 8 (.num .i64)] .no)) .no)) (fun d=>by kernel_rfl)
theorem w9:FOk Tryz.prog 139 o9:=fok (V:=⟨tt,[],[],8,[]⟩) al trivial mixed Tryz.func139 rfl rfl (enters_of Tryz.func139 (by kernel_rfl) rfl) rfl (Nat.le_of_ble_eq_true rfl) rfl .no (fun d=>by kernel_rfl)
theorem Al:FOk Tryz.prog 99 sg:=fok (V:=⟨tt,[(138,bN),(139,o9)],[],9,[]⟩) al ⟨eb,w9,trivial⟩ mixed Tryz.func99 rfl rfl (enters_of Tryz.func99 (by kernel_rfl) rfl) rfl (Nat.le_of_ble_eq_true rfl) rfl .no (fun d=>by kernel_rfl)
theorem jv:FOk Tryz.prog 102 hY:=fok (V:=⟨tt,[],[],15,[]⟩) al trivial mixed Tryz.func102 rfl rfl (enters_of Tryz.func102 (by kernel_rfl) rfl) rfl (Nat.le_of_ble_eq_true rfl) rfl .no (fun d=>by kernel_rfl)
theorem uC:FOk Tryz.prog 244 pa:=fok (V:=⟨tt,[(102,hY)],[],5,[]⟩) al ⟨jv,trivial⟩ mixed Tryz.func244 rfl rfl (enters_of Tryz.func244 (by kernel_rfl) rfl) rfl (Nat.le_of_ble_eq_true rfl) rfl .no (fun d=>by kernel_rfl)
end R
namespace R
open Go.RowKit
open D
theorem D2:FOk Tryz.prog 269 wP:=fok (V:=⟨tt,[(102,hY),(244,pa)],[],48,[]⟩) al ⟨jv,uC,trivial⟩ mixed Tryz.func269 rfl rfl (enters_of Tryz.func269 (by kernel_rfl) rfl) rfl (Nat.le_of_ble_eq_true rfl) rfl (.two .no (.two (.two .no (.two .no (.two .no (.two .no (.two .no (.join [.slot 37 .boo] .no .no)))))) .no)) (fun d=>by kernel_rfl)
theorem kD:FOk Tryz.prog 270 aV:=Cb (f:=aV) (iD (f:=⟨aV.ps,aV.rs,aV.m,none⟩) (enters_of Tryz.func270 (by kernel_rfl) rfl) rfl (fun d=>rfl)) (Fv (V:=⟨tt,[],[(5,.raw)],8,[]⟩) al trivial mixed Tryz.func270 rfl rfl (enters_of Tryz.func270 (by kernel_rfl) rfl) (Nat.le_of_ble_eq_true rfl) .no (fun E bn xs=>by cases bn <;> kernel_rfl))
theorem tF:FOk Tryz.prog 235 p8:=fok (V:=⟨tt,[(269,wP),(270,aV)],[],56,[(294,263,ui)]⟩) al ⟨D2,kD,trivial⟩ mixed Tryz.func235 rfl rfl (enters_of Tryz.func235 (by kernel_rfl) rfl) rfl (Nat.le_of_ble_eq_true rfl) rfl (.two .no (.two .no (.two (.two .no (.loop [.slot 3 (.own 263 Tz),.slot 13 (.num .i64)] (.two .no (.two .no (.two (.two .no (.two .no (.two (.two .no (.at [.slot 6 (.num .i64)] (.two (.two .no (.at [.slot 19 .boo] .no)) (.two .no (.two (.two .no (.at [.slot 22 .boo] .no)) .no))))) .no))) .no))))) .no))) (fun d=>by kernel_rfl)
theorem GU:FOk Tryz.prog 297 yW:=fok (V:=⟨tt,[(235,p8)],[],6,[(294,263,ui)]⟩) al ⟨tF,trivial⟩ mixed Tryz.func297 rfl rfl (enters_of Tryz.func297 (by kernel_rfl) rfl) rfl (Nat.le_of_ble_eq_true rfl) rfl .no (fun d=>by kernel_rfl)
theorem xa:FOk Tryz.prog 264 pb:=fok (V:=⟨tt,[(297,yW)],[],11,[]⟩) al ⟨GU,trivial⟩ mixed Tryz.func264 rfl rfl (enters_of Tryz.func264 (by kernel_rfl) rfl) rfl (Nat.le_of_ble_eq_true rfl) rfl .no (fun d=>by kernel_rfl)
theorem qC: ∀n,FOk Tryz.prog 265 (jW n)
 | 0=>iD (f:=jW 0) (enters_of Tryz.func265 (by kernel_rfl) rfl) rfl (fun d=>rfl)
 | n+1=>by
  have ih:=qC n
  exact fok (V:=⟨tt,[(265,(jW n))],[],39,[(294,263,ui)]⟩) al ⟨ih,trivial⟩ mixed Tryz.func265 rfl rfl (enters_of Tryz.func265 (by kernel_rfl) rfl) rfl (Nat.le_of_ble_eq_true rfl) rfl (.two .no (.two .no (.two (.two .no (.loop [.slot 3 (.num .i64),.slot 11 (.num .i64)] (.two .no (.two .no (.two (.at [.slot 3 (.num .i64)] .no) .no))))) .no))) (fun d=>by kernel_rfl)
theorem ML:FOk Tryz.prog 308 Fx:=fok (V:=⟨tt,[],[],7,[(294,263,ui)]⟩) al trivial mixed Tryz.func308 rfl rfl (enters_of Tryz.func308 (by kernel_rfl) rfl) rfl (Nat.le_of_ble_eq_true rfl) rfl .no (fun d=>by kernel_rfl)
theorem uD: ∀n,FOk Tryz.prog 298 (mj n)
 | 0=>iD (f:=mj 0) (enters_of Tryz.func298 (by kernel_rfl) rfl) rfl (fun d=>rfl)
 | n+1=>by
  have ih:=uD n
  exact fok (V:=⟨tt,[(298,(mj n)),(308,Fx)],[],32,[(294,263,ui)]⟩) al ⟨ih,ML,trivial⟩ mixed Tryz.func298 rfl rfl (enters_of Tryz.func298 (by kernel_rfl) rfl) rfl (Nat.le_of_ble_eq_true rfl) rfl .no (fun d=>by kernel_rfl)
theorem pj: ∀n,FOk Tryz.prog 266 (iW n)
 | 0=>iD (f:=iW 0) (enters_of Tryz.func266 (by kernel_rfl) rfl) rfl (fun d=>rfl)
 | n+1=>by
  have ih:=pj n
  exact fok (V:=⟨tt,[(266,(iW n)),(298,(mj eK))],[(52,t263)],58,[(294,263,ui)]⟩) al ⟨ih,(uD eK),trivial⟩ mixed Tryz.func266 rfl rfl (enters_of Tryz.func266 (by kernel_rfl) rfl) rfl (Nat.le_of_ble_eq_true rfl) rfl (.two .no (.two .no (.two .no (.two (.two .no (.loop [.slot 41 (.num .i64),.box 3 [(.num .i64),(.num .i64),(.num .i64),(.num .i64),(.own 263 (.tree 294 263 ui))]] .no)) .no)))) (fun d=>by kernel_rfl)
theorem oq: ∀n,FOk Tryz.prog 299 (gJ n)
 | 0=>iD (f:=gJ 0) (enters_of Tryz.func299 (by kernel_rfl) rfl) rfl (fun d=>rfl)
 | n+1=>by
  have ih:=oq n
  exact fok (V:=⟨tt,[(299,(gJ n))],[],32,[(294,263,ui)]⟩) al ⟨ih,trivial⟩ mixed Tryz.func299 rfl rfl (enters_of Tryz.func299 (by kernel_rfl) rfl) rfl (Nat.le_of_ble_eq_true rfl) rfl (.two (.two .no (.loop [.slot 11 (.num .i64),.box 1 [(.own 188 ui)]] .no)) .no) (fun d=>by kernel_rfl)
theorem Am:FOk Tryz.prog 267 si:=fok (V:=⟨tt,[(299,(gJ eK))],[],8,[(294,263,ui)]⟩) al ⟨(oq eK),trivial⟩ mixed Tryz.func267 rfl rfl (enters_of Tryz.func267 (by kernel_rfl) rfl) rfl (Nat.le_of_ble_eq_true rfl) rfl .no (fun d=>by kernel_rfl)
theorem xX:FOk Tryz.prog 233 qw:=fok (V:=⟨tt,[(235,p8),(264,pb),(265,(jW eK)),(266,(iW eK)),(267,si)],[],25,[(294,263,ui)]⟩) al ⟨tF,xa,(qC eK),(pj eK),Am,trivial⟩ mixed Tryz.func233 rfl rfl (enters_of Tryz.func233 (by kernel_rfl) rfl) rfl (Nat.le_of_ble_eq_true rfl) rfl .no (fun d=>by kernel_rfl)
theorem qf:FOk Tryz.prog 268 kH:=fok (V:=⟨tt,[],[],31,[]⟩) al trivial mixed Tryz.func268 rfl rfl (enters_of Tryz.func268 (by kernel_rfl) rfl) rfl (Nat.le_of_ble_eq_true rfl) rfl (.two .no (.loop [.slot 12 (.num .i64),.par 3 [3] 3 y3] (.two .no (.two .no (.two (.at [.par 3 [3] 3 y3] .no) .no))))) (fun d=>by kernel_rfl)
theorem lO: ∀n,FOk Tryz.prog 234 (eI n)
 | 0=>iD (f:=eI 0) (enters_of Tryz.func234 (by kernel_rfl) rfl) rfl (fun d=>rfl)
 | n+1=>by
  have ih:=lO n
  exact fok (V:=⟨tt,[(234,(eI n)),(268,kH)],[],163,[(294,263,ui)]⟩) al ⟨ih,qf,trivial⟩ mixed Tryz.func234 rfl rfl (enters_of Tryz.func234 (by kernel_rfl) rfl) rfl (Nat.le_of_ble_eq_true rfl) rfl (.two .no (.two (.two .no (.two .no (.two .no (.two .no (.two .no (.two .no (.two .no (.two .no (.two (.two .no (.two .no (.two .no (.two (.two .no (.at [.box 10 [(.num .i64),(.num .i64),.boo]] .no)) (.two (.two .no (.at [.box 10 [(.num .i64),(.num .i64),.boo]] .no)) .no))))) .no))))))))) .no)) (fun d=>by kernel_rfl)
theorem sx:FOk Tryz.prog 207 mn:=fok (V:=⟨tt,[(233,qw),(234,(eI eK)),(235,p8)],[],49,[(294,263,ui)]⟩) al ⟨xX,(lO eK),tF,trivial⟩ mixed Tryz.func207 rfl rfl (enters_of Tryz.func207 (by kernel_rfl) rfl) rfl (Nat.le_of_ble_eq_true rfl) rfl (.two .no (.two .no (.two .no (.two .no (.two (.two .no (.loop [.slot 6 (.num .i64),.slot 22 (.num .i64)] (.two .no (.two .no (.two (.at [.slot 6 (.num .i64)] .no) .no))))) .no))))) (fun d=>by kernel_rfl)
theorem ot:FOk Tryz.prog 236 kB:=fok (V:=⟨tt,[],[],96,[]⟩) al trivial mixed Tryz.func236 rfl rfl (enters_of Tryz.func236 (by kernel_rfl) rfl) rfl (Nat.le_of_ble_eq_true rfl) rfl (.two .no (.two .no (.two .no (.two .no (.two (.two .no (.loop [.slot 10 (.own 3 y3),.slot 11 (.map ⟨3,3,.int,.int⟩),.slot 13 (.num .i64),.box 12 [(.num .i64),(.own 4 y4),(.own 26 y26)]] (.two .no (.two (.two .no (.two (.two .no (.loop [.slot 10 (.own 3 y3),.slot 11 (.map ⟨3,3,.int,.int⟩),.slot 14 (.own 3 y3),.slot 15 (.num .i64)] (.two .no (.join [.slot 10 (.own 3 y3),.slot 11 (.map ⟨3,3,.int,.int⟩),.slot 14 (.own 3 y3)] (.two .no (.two .no (.two .no (.join [.slot 10 (.own 3 y3),.slot 11 (.map ⟨3,3,.int,.int⟩),.slot 18 (.num .i64)] .no .no)))) .no)))) .no)) .no)))) .no))))) (fun d=>by kernel_rfl)
theorem pn:FOk Tryz.prog 237 kg:=fok (V:=⟨tt,[],[],20,[]⟩) al trivial mixed Tryz.func237 rfl rfl (enters_of Tryz.func237 (by kernel_rfl) rfl) rfl (Nat.le_of_ble_eq_true rfl) rfl .no (fun d=>by kernel_rfl)
end R
namespace R
open Go.RowKit
open D
theorem re:FOk Tryz.prog 239 lH:=fok (V:=⟨tt,[],[],61,[]⟩) al trivial mixed Tryz.func239 rfl rfl (enters_of Tryz.func239 (by kernel_rfl) rfl) rfl (Nat.le_of_ble_eq_true rfl) rfl (.two .no (.two .no (.join [.slot 7 (.num .i64)] .no (.two (.two .no (.loop [.slot 7 (.num .i64),.slot 21 (.num .i64)] (.two .no (.two .no (.join [.slot 7 (.num .i64)] .no .no))))) (.two .no (.two (.two .no (.loop [.slot 10 (.num .i64),.slot 39 (.num .i64)] (.two .no (.two .no (.join [.slot 10 (.num .i64)] .no .no))))) .no)))))) (fun d=>by kernel_rfl)
theorem tG:FOk Tryz.prog 238 mV:=fok (V:=⟨tt,[(239,lH)],[],15,[]⟩) al ⟨re,trivial⟩ mixed Tryz.func238 rfl rfl (enters_of Tryz.func238 (by kernel_rfl) rfl) rfl (Nat.le_of_ble_eq_true rfl) rfl .no (fun d=>by kernel_rfl)
theorem xb:FOk Tryz.prog 208 pc:=fok (V:=⟨tt,[(236,kB),(237,kg),(238,mV)],[],13,[]⟩) al ⟨ot,pn,tG,trivial⟩ mixed Tryz.func208 rfl rfl (enters_of Tryz.func208 (by kernel_rfl) rfl) rfl (Nat.le_of_ble_eq_true rfl) rfl .no (fun d=>by kernel_rfl)
theorem kW:FOk Tryz.prog 309 aZ:=Cb (f:=aZ) (iD (f:=⟨aZ.ps,aZ.rs,aZ.m,none⟩) (enters_of Tryz.func309 (by kernel_rfl) rfl) rfl (fun d=>rfl)) (Fv (V:=⟨tt,[],[(5,.raw)],8,[]⟩) al trivial mixed Tryz.func309 rfl rfl (enters_of Tryz.func309 (by kernel_rfl) rfl) (Nat.le_of_ble_eq_true rfl) .no (fun E bn xs=>by cases bn <;> kernel_rfl))
theorem sy:FOk Tryz.prog 300 mo:=fok (V:=⟨tt,[(309,aZ)],[],48,[]⟩) al ⟨kW,trivial⟩ mixed Tryz.func300 rfl rfl (enters_of Tryz.func300 (by kernel_rfl) rfl) rfl (Nat.le_of_ble_eq_true rfl) rfl (.two .no (.two .no (.two (.two .no (.loop [.slot 4 .boo,.row 3 4 y4] (.two .no (.two .no (.two .no (.loop [.slot 4 .boo,.slot 16 (.num .i64),.row 3 4 y4] (.two .no (.two .no (.two (.two .no (.two .no (.loop [.slot 4 .boo,.slot 23 (.num .i64),.row 3 4 y4] (.two .no (.two .no (.two (.at [.slot 4 .boo,.row 3 4 y4] .no) .no)))))) .no))))))))) .no))) (fun d=>by kernel_rfl)
theorem ir:FOk Tryz.prog 310 c9:=fok (V:=⟨tt,[],[],19,[]⟩) al trivial mixed Tryz.func310 rfl rfl (enters_of Tryz.func310 (by kernel_rfl) rfl) rfl (Nat.le_of_ble_eq_true rfl) rfl (.two .no (.two (.two .no (.loop [.slot 8 (.num .i64)] .no)) .no)) (fun d=>by kernel_rfl)
theorem fX:FOk Tryz.prog 152 db:=fok (V:=⟨tt,[],[],26,[]⟩) al trivial mixed Tryz.func152 rfl rfl (enters_of Tryz.func152 (by kernel_rfl) rfl) rfl (Nat.le_of_ble_eq_true rfl) rfl (.two .no (.two .no (.two (.two .no (.loop [.slot 13 (.num .i64)] .no)) .no))) (fun d=>by kernel_rfl)
theorem oA:FOk Tryz.prog 311 jc:=fok (V:=⟨tt,[(152,db)],[],7,[]⟩) al ⟨fX,trivial⟩ mixed Tryz.func311 rfl rfl (enters_of Tryz.func311 (by kernel_rfl) rfl) rfl (Nat.le_of_ble_eq_true rfl) rfl .no (fun d=>by kernel_rfl)
theorem qg:FOk Tryz.prog 301 kI:=fok (V:=⟨tt,[(310,c9),(311,jc)],[],70,[]⟩) al ⟨ir,oA,trivial⟩ mixed Tryz.func301 rfl rfl (enters_of Tryz.func301 (by kernel_rfl) rfl) rfl (Nat.le_of_ble_eq_true rfl) rfl (.two .no (.two .no (.two .no (.two (.two .no (.loop [.slot 6 (.own 26 y26),.slot 7 (.own 3 y3),.slot 18 (.num .i64)] (.two .no (.two .no (.join [.slot 6 (.own 26 y26),.slot 7 (.own 3 y3)] (.two .no (.two .no (.two .no (.two (.two .no (.loop [.slot 36 (.num .i64),.box 10 [(.own 3 y3)]] (.two .no (.two .no (.two (.two .no (.join [.slot 12 (.num .i64)] .no .no)) .no))))) (.two .no (.join [.slot 6 (.own 26 y26),.slot 13 (.num .i64),.gone 10] .no .no)))))) .no))))) .no)))) (fun d=>by kernel_rfl)
theorem po:FOk Tryz.prog 271 kh:=fok (V:=⟨tt,[(300,mo),(301,kI)],[],49,[]⟩) al ⟨sy,qg,trivial⟩ mixed Tryz.func271 rfl rfl (enters_of Tryz.func271 (by kernel_rfl) rfl) rfl (Nat.le_of_ble_eq_true rfl) rfl (.two .no (.two .no (.two (.two .no (.loop [.slot 3 (.own 3 y3),.slot 13 (.num .i64)] (.two .no (.two .no (.join [.slot 3 (.own 3 y3)] .no .no))))) (.two .no (.loop [.slot 3 (.own 3 y3),.slot 6 (.num .i64)] .no))))) (fun d=>by kernel_rfl)
theorem rf:FOk Tryz.prog 277 lI:=fok (V:=⟨tt,[],[],17,[]⟩) al trivial mixed Tryz.func277 rfl rfl (enters_of Tryz.func277 (by kernel_rfl) rfl) rfl (Nat.le_of_ble_eq_true rfl) rfl .no (fun d=>by kernel_rfl)
theorem rh:FOk Tryz.prog 278 lJ:=fok (V:=⟨tt,[],[],51,[]⟩) al trivial mixed Tryz.func278 rfl rfl (enters_of Tryz.func278 (by kernel_rfl) rfl) rfl (Nat.le_of_ble_eq_true rfl) rfl .no (fun d=>by kernel_rfl)
theorem tH:FOk Tryz.prog 242 mW:=fok (V:=⟨tt,[(277,lI),(278,lJ)],[],30,[]⟩) al ⟨rf,rh,trivial⟩ mixed Tryz.func242 rfl rfl (enters_of Tryz.func242 (by kernel_rfl) rfl) rfl (Nat.le_of_ble_eq_true rfl) rfl .no (fun d=>by kernel_rfl)
theorem fG:FOk Tryz.prog 214 cV:=fok (V:=⟨tt,[(242,mW)],[(44,.bool)],48,[]⟩) al ⟨tH,trivial⟩ mixed Tryz.func214 rfl rfl (enters_of Tryz.func214 (by kernel_rfl) rfl) rfl (Nat.le_of_ble_eq_true rfl) rfl (.two .no (.two .no (.two .no (.two .no (.two .no (.two .no (.two (.loop [.slot 8 (.num .i64),.row 7 3 (.int .i64)] .no) .no))))))) (fun d=>by kernel_rfl)
theorem D3:FOk Tryz.prog 272 wQ:=fok (V:=⟨tt,[(214,cV)],[],6,[]⟩) al ⟨fG,trivial⟩ mixed Tryz.func272 rfl rfl (enters_of Tryz.func272 (by kernel_rfl) rfl) rfl (Nat.le_of_ble_eq_true rfl) rfl .no (fun d=>by kernel_rfl)
theorem lX:FOk Tryz.prog 274 fW:=fok (V:=⟨tt,[],[],19,[]⟩) al trivial mixed Tryz.func274 rfl rfl (enters_of Tryz.func274 (by kernel_rfl) rfl) rfl (Nat.le_of_ble_eq_true rfl) rfl (.two .no (.two (.two .no (.loop [.slot 8 (.num .i64)] .no)) .no)) (fun d=>by kernel_rfl)
theorem m7:FOk Tryz.prog 273 hZ:=fok (V:=⟨tt,[(274,fW)],[],7,[]⟩) al ⟨lX,trivial⟩ mixed Tryz.func273 rfl rfl (enters_of Tryz.func273 (by kernel_rfl) rfl) rfl (Nat.le_of_ble_eq_true rfl) rfl .no (fun d=>by kernel_rfl)
end R
namespace R
open Go.RowKit
open D
theorem m8:FOk Tryz.prog 275 ic:=fok (V:=⟨tt,[],[],12,[]⟩) al trivial mixed Tryz.func275 rfl rfl (enters_of Tryz.func275 (by kernel_rfl) rfl) rfl (Nat.le_of_ble_eq_true rfl) rfl .no (fun d=>by kernel_rfl)
theorem iX:FOk Tryz.prog 217 eY:=fok (V:=⟨tt,[(244,pa)],[],22,[]⟩) al ⟨uC,trivial⟩ mixed Tryz.func217 rfl rfl (enters_of Tryz.func217 (by kernel_rfl) rfl) rfl (Nat.le_of_ble_eq_true rfl) rfl .no (fun d=>by kernel_rfl)
theorem m9:FOk Tryz.prog 276 ig:=fok (V:=⟨tt,[(217,eY)],[],29,[]⟩) al ⟨iX,trivial⟩ mixed Tryz.func276 rfl rfl (enters_of Tryz.func276 (by kernel_rfl) rfl) rfl (Nat.le_of_ble_eq_true rfl) rfl .no (fun d=>by kernel_rfl)
theorem oB:FOk Tryz.prog 240 jd:=fok (V:=⟨tt,[(236,kB),(271,kh),(272,wQ),(273,hZ),(275,ic),(276,ig)],[],31,[]⟩) al ⟨ot,po,D3,m7,m8,m9,trivial⟩ mixed Tryz.func240 rfl rfl (enters_of Tryz.func240 (by kernel_rfl) rfl) rfl (Nat.le_of_ble_eq_true rfl) rfl .no (fun d=>by kernel_rfl)
theorem JA:FOk Tryz.prog 209 Cf:=fok (V:=⟨tt,[(240,jd)],[],13,[]⟩) al ⟨oB,trivial⟩ mixed Tryz.func209 rfl rfl (enters_of Tryz.func209 (by kernel_rfl) rfl) rfl (Nat.le_of_ble_eq_true rfl) rfl .no (fun d=>by kernel_rfl)
theorem xc:FOk Tryz.prog 175 pd:=fok (V:=⟨tt,[(207,mn),(208,pc),(209,Cf)],[],28,[]⟩) al ⟨sx,xb,JA,trivial⟩ mixed Tryz.func175 rfl rfl (enters_of Tryz.func175 (by kernel_rfl) rfl) rfl (Nat.le_of_ble_eq_true rfl) rfl .no (fun d=>by kernel_rfl)
theorem eQ:FOk Tryz.prog 176 bW:=fok (V:=⟨tt,[],[],19,[]⟩) al trivial mixed Tryz.func176 rfl rfl (enters_of Tryz.func176 (by kernel_rfl) rfl) rfl (Nat.le_of_ble_eq_true rfl) rfl (.two .no (.two (.two .no (.loop [.slot 8 (.num .i64)] .no)) .no)) (fun d=>by kernel_rfl)
theorem kX:FOk Tryz.prog 210 eZ:=fok (V:=⟨tt,[],[],26,[]⟩) al trivial mixed Tryz.func210 rfl rfl (enters_of Tryz.func210 (by kernel_rfl) rfl) rfl (Nat.le_of_ble_eq_true rfl) rfl (.two .no (.two .no (.two (.two .no (.loop [.slot 13 (.num .i64)] .no)) .no))) (fun d=>by kernel_rfl)
theorem dx:FOk Tryz.prog 211 bC:=fok (V:=⟨tt,[],[],32,[]⟩) al trivial mixed Tryz.func211 rfl rfl (enters_of Tryz.func211 (by kernel_rfl) rfl) rfl (Nat.le_of_ble_eq_true rfl) rfl (.two .no (.two .no (.two (.two .no (.loop [.slot 17 (.num .i64)] .no)) .no))) (fun d=>by kernel_rfl)
theorem ri:FOk Tryz.prog 212 lK:=fok (V:=⟨tt,[(152,db)],[],8,[]⟩) al ⟨fX,trivial⟩ mixed Tryz.func212 rfl rfl (enters_of Tryz.func212 (by kernel_rfl) rfl) rfl (Nat.le_of_ble_eq_true rfl) rfl .no (fun d=>by kernel_rfl)
theorem na:FOk Tryz.prog 178 ju:=fok (V:=⟨tt,[(210,eZ),(211,bC),(212,lK)],[],24,[]⟩) al ⟨kX,dx,ri,trivial⟩ mixed Tryz.func178 rfl rfl (enters_of Tryz.func178 (by kernel_rfl) rfl) rfl (Nat.le_of_ble_eq_true rfl) rfl .no (fun d=>by kernel_rfl)
theorem Cs:FOk Tryz.prog 177 uw:=fok (V:=⟨tt,[(178,ju)],[],7,[]⟩) al ⟨na,trivial⟩ mixed Tryz.func177 rfl rfl (enters_of Tryz.func177 (by kernel_rfl) rfl) rfl (Nat.le_of_ble_eq_true rfl) rfl .no (fun d=>by kernel_rfl)
theorem Ct:FOk Tryz.prog 179 uy:=fok (V:=⟨tt,[],[],8,[]⟩) al trivial mixed Tryz.func179 rfl rfl (enters_of Tryz.func179 (by kernel_rfl) rfl) rfl (Nat.le_of_ble_eq_true rfl) rfl .no (fun d=>by kernel_rfl)
theorem GV:FOk Tryz.prog 140 yX:=fok (V:=⟨tt,[(102,hY),(175,pd),(176,bW),(177,uw),(179,uy)],[],80,[]⟩) al ⟨jv,xc,eQ,Cs,Ct,trivial⟩ mixed Tryz.func140 rfl rfl (enters_of Tryz.func140 (by kernel_rfl) rfl) rfl (Nat.le_of_ble_eq_true rfl) rfl (.two .no (.two .no (.two (.two .no (.loop [.slot 13 (.num .i64),.box 4 [(.own 92 y92),(.own 146 Cc)]] (.two .no (.two .no (.two (.two .no (.two .no (.two .no (.two .no (.join [.slot 9 (.num .i64),.box 4 [(.own 92 y92),(.own 146 Cc)],.gone 7] .no .no))))) .no))))) .no))) (fun d=>by kernel_rfl)
theorem bO:FOk Tryz.prog 180 aT:=fok (V:=⟨tt,[],[],32,[]⟩) al trivial mixed Tryz.func180 rfl rfl (enters_of Tryz.func180 (by kernel_rfl) rfl) rfl (Nat.le_of_ble_eq_true rfl) rfl (.two .no (.two .no (.two (.two .no (.loop [.slot 17 (.num .i64)] .no)) .no))) (fun d=>by kernel_rfl)
theorem bG:FOk Tryz.prog 181 aQ:=fok (V:=⟨tt,[],[],32,[]⟩) al trivial mixed Tryz.func181 rfl rfl (enters_of Tryz.func181 (by kernel_rfl) rfl) rfl (Nat.le_of_ble_eq_true rfl) rfl (.two .no (.two .no (.two (.two .no (.loop [.slot 17 (.num .i64)] .no)) .no))) (fun d=>by kernel_rfl)
theorem kj:FOk Tryz.prog 241 ed:=fok (V:=⟨tt,[],[],26,[]⟩) al trivial mixed Tryz.func241 rfl rfl (enters_of Tryz.func241 (by kernel_rfl) rfl) rfl (Nat.le_of_ble_eq_true rfl) rfl (.two .no (.two .no (.two (.two .no (.loop [.slot 13 (.num .i64)] .no)) .no))) (fun d=>by kernel_rfl)
end R
namespace R
open Go.RowKit
open D
theorem xY:FOk Tryz.prog 213 qx:=fok (V:=⟨tt,[(241,ed)],[],10,[]⟩) al ⟨kj,trivial⟩ mixed Tryz.func213 rfl rfl (enters_of Tryz.func213 (by kernel_rfl) rfl) rfl (Nat.le_of_ble_eq_true rfl) rfl .no (fun d=>by kernel_rfl)
theorem uP:FOk Tryz.prog 182 od:=fok (V:=⟨tt,[(213,qx)],[],24,[]⟩) al ⟨xY,trivial⟩ mixed Tryz.func182 rfl rfl (enters_of Tryz.func182 (by kernel_rfl) rfl) rfl (Nat.le_of_ble_eq_true rfl) rfl .no (fun d=>by kernel_rfl)
theorem rj:FOk Tryz.prog 141 lL:=fok (V:=⟨tt,[(178,ju),(180,aT),(181,aQ),(182,od)],[],17,[]⟩) al ⟨na,bO,bG,uP,trivial⟩ mixed Tryz.func141 rfl rfl (enters_of Tryz.func141 (by kernel_rfl) rfl) rfl (Nat.le_of_ble_eq_true rfl) rfl .no (fun d=>by kernel_rfl)
theorem rk:FOk Tryz.prog 100 lM:=fok (V:=⟨tt,[(140,yX),(141,lL)],[],17,[]⟩) al ⟨GV,rj,trivial⟩ mixed Tryz.func100 rfl rfl (enters_of Tryz.func100 (by kernel_rfl) rfl) rfl (Nat.le_of_ble_eq_true rfl) rfl .no (fun d=>by kernel_rfl)
theorem uE:FOk Tryz.prog 142 pe:=fok (V:=⟨tt,[],[],6,[]⟩) al trivial mixed Tryz.func142 rfl rfl (enters_of Tryz.func142 (by kernel_rfl) rfl) rfl (Nat.le_of_ble_eq_true rfl) rfl .no (fun d=>by kernel_rfl)
theorem tI:FOk Tryz.prog 101 mX:=fok (V:=⟨tt,[(142,pe)],[],29,[]⟩) al ⟨uE,trivial⟩ mixed Tryz.func101 rfl rfl (enters_of Tryz.func101 (by kernel_rfl) rfl) rfl (Nat.le_of_ble_eq_true rfl) rfl (.two .no (.two .no (.two (.two .no (.loop [.slot 16 (.num .i64),.box 3 [(.num .i64),(.own 4 y4),(.own 26 y26)]] .no)) .no))) (fun d=>by kernel_rfl)
theorem sA:FOk Tryz.prog 54 mq:=fok (V:=⟨tt,[(99,sg),(100,lM),(101,mX)],[],29,[]⟩) al ⟨Al,rk,tI,trivial⟩ mixed Tryz.func54 rfl rfl (enters_of Tryz.func54 (by kernel_rfl) rfl) rfl (Nat.le_of_ble_eq_true rfl) rfl .no (fun d=>by kernel_rfl)
theorem GW:FOk Tryz.prog 103 yY:=fok (V:=⟨tt,[(102,hY)],[],27,[]⟩) al ⟨jv,trivial⟩ mixed Tryz.func103 rfl rfl (enters_of Tryz.func103 (by kernel_rfl) rfl) rfl (Nat.le_of_ble_eq_true rfl) rfl .no (fun d=>by kernel_rfl)
theorem ou:FOk Tryz.prog 55 kC:=fok (V:=⟨tt,[(102,hY),(103,yY)],[],59,[]⟩) al ⟨jv,GW,trivial⟩ mixed Tryz.func55 rfl rfl (enters_of Tryz.func55 (by kernel_rfl) rfl) rfl (Nat.le_of_ble_eq_true rfl) rfl (.two .no (.two .no (.two (.two .no (.loop [.slot 14 (.num .i64)] .no)) (.two (.two .no (.loop [.slot 25 (.num .i64)] .no)) .no)))) (fun d=>by kernel_rfl)
theorem qi:FOk Tryz.prog 143 kJ:=fok (V:=⟨tt,[(102,hY)],[],52,[]⟩) al ⟨jv,trivial⟩ mixed Tryz.func143 rfl rfl (enters_of Tryz.func143 (by kernel_rfl) rfl) rfl (Nat.le_of_ble_eq_true rfl) rfl (.two .no (.two .no (.two .no (.two (.two .no (.loop [.slot 32 (.num .i64)] (.two .no (.two .no (.two (.two .no (.two (.two .no (.loop [.slot 38 (.num .i64)] .no)) .no)) .no))))) .no)))) (fun d=>by kernel_rfl)
theorem ze:FOk Tryz.prog 104 tz:=fok (V:=⟨tt,[(55,kC),(102,hY),(143,kJ)],[],29,[]⟩) al ⟨ou,jv,qi,trivial⟩ mixed Tryz.func104 rfl rfl (enters_of Tryz.func104 (by kernel_rfl) rfl) rfl (Nat.le_of_ble_eq_true rfl) rfl (.two .no (.two (.two .no (.loop [.slot 11 (.num .i64)] .no)) .no)) (fun d=>by kernel_rfl)
theorem GX:FOk Tryz.prog 183 yZ:=fok (V:=⟨tt,[(214,cV)],[(34,.bool)],67,[]⟩) al ⟨fG,trivial⟩ mixed Tryz.func183 rfl rfl (enters_of Tryz.func183 (by kernel_rfl) rfl) rfl (Nat.le_of_ble_eq_true rfl) rfl (.two .no (.two .no (.two .no (.two (.two .no (.loop [.slot 6 (.own 3 (.int .i64)),.slot 18 (.num .i64),.row 5 3 y3] .no)) (.two (.loop [.slot 6 (.own 3 (.int .i64)),.row 5 3 y3] (.two .no (.two (.two .no (.loop [.slot 6 (.own 3 y3),.slot 42 (.num .i64),.row 5 3 y3] (.two .no (.two .no (.two (.at [.slot 6 (.own 3 y3),.row 5 3 y3] .no) .no))))) .no))) .no))))) (fun d=>by kernel_rfl)
theorem rl:FOk Tryz.prog 185 nO:=fok (V:=⟨tt,[],[],22,[]⟩) al trivial mixed Tryz.func185 rfl rfl (enters_of Tryz.func185 (by kernel_rfl) rfl) rfl (Nat.le_of_ble_eq_true rfl) rfl (.two .no (.two .no (.two (.two .no (.loop [.slot 3 (.own 3 y3),.slot 4 (.num .i64)] (.two .no (.join [.slot 3 (.own 3 y3)] .no .no)))) .no))) (fun d=>by kernel_rfl)
theorem JB:FOk Tryz.prog 243 Cg:=fok (V:=⟨tt,[],[],13,[]⟩) al trivial mixed Tryz.func243 rfl rfl (enters_of Tryz.func243 (by kernel_rfl) rfl) rfl (Nat.le_of_ble_eq_true rfl) rfl .no (fun d=>by kernel_rfl)
theorem MM:FOk Tryz.prog 215 Fy:=fok (V:=⟨tt,[(243,Cg)],[],57,[]⟩) al ⟨JB,trivial⟩ mixed Tryz.func215 rfl rfl (enters_of Tryz.func215 (by kernel_rfl) rfl) rfl (Nat.le_of_ble_eq_true rfl) rfl (.two .no (.two .no (.two (.two .no (.loop [.slot 13 (.num .i64),.row 3 238 Tx] .no)) .no))) (fun d=>by kernel_rfl)
theorem xd:FOk Tryz.prog 186 q8:=fok (V:=⟨tt,[(217,eY)],[],29,[]⟩) al ⟨iX,trivial⟩ mixed Tryz.func186 rfl rfl (enters_of Tryz.func186 (by kernel_rfl) rfl) rfl (Nat.le_of_ble_eq_true rfl) rfl (.two .no (.two .no (.two (.two .no (.loop [.slot 7 (.num .i64),.slot 8 (.num .i64)] .no)) .no))) (fun d=>by kernel_rfl)
theorem JC:FOk Tryz.prog 216 Ci:=fok (V:=⟨tt,[(185,nO),(186,q8),(217,eY)],[],45,[]⟩) al ⟨rl,xd,iX,trivial⟩ mixed Tryz.func216 rfl rfl (enters_of Tryz.func216 (by kernel_rfl) rfl) rfl (Nat.le_of_ble_eq_true rfl) rfl (.two .no (.two .no (.two (.two .no (.loop [.slot 9 (.num .i64),.slot 18 (.num .i64)] (.two .no (.two .no (.two (.two .no (.two .no (.loop [.slot 9 (.num .i64),.slot 28 (.num .i64)] (.two .no (.two .no (.join [.slot 9 (.num .i64)] .no .no)))))) .no))))) .no))) (fun d=>by kernel_rfl)
end R
namespace R
open Go.RowKit
open D
theorem uQ:FOk Tryz.prog 184 oe:=fok (V:=⟨tt,[(185,nO),(215,Fy),(216,Ci)],[],86,[]⟩) al ⟨rl,MM,JC,trivial⟩ mixed Tryz.func184 rfl rfl (enters_of Tryz.func184 (by kernel_rfl) rfl) rfl (Nat.le_of_ble_eq_true rfl) rfl (.two .no (.two .no (.two .no (.two (.two .no (.loop [.slot 26 (.num .i64),.row 6 26 y26] (.two .no (.two .no (.two (.two .no (.two .no (.loop [.slot 9 (.num .i64),.row 6 26 y26] (.two .no (.two (.two .no (.loop [.slot 38 (.num .i64),.row 6 26 y26] (.two .no (.two .no (.two (.two .no (.two .no (.loop [.slot 55 (.num .i64),.row 6 26 y26] .no))) .no))))) .no))))) .no))))) .no)))) (fun d=>by kernel_rfl)
theorem tJ:FOk Tryz.prog 144 mY:=UJ (V:=⟨tt,[(104,tz),(183,yZ),(184,oe)],[(1000000,.raw)],26,[]⟩) al ⟨ze,GX,uQ,trivial⟩ mixed Tryz.func144 rfl rfl (enters_of Tryz.func144 (by kernel_rfl) rfl) ⟨rfl,rfl⟩ (Nat.le_of_ble_eq_true rfl) rfl .no (fun d=>by kernel_rfl)
theorem An:FOk Tryz.prog 145 sj:=fok (V:=⟨tt,[(185,nO),(186,q8)],[],35,[]⟩) al ⟨rl,xd,trivial⟩ mixed Tryz.func145 rfl rfl (enters_of Tryz.func145 (by kernel_rfl) rfl) rfl (Nat.le_of_ble_eq_true rfl) rfl (.two .no (.two (.two .no (.loop [.slot 14 (.num .i64)] (.two .no (.two .no (.two (.two .no (.two .no (.loop [.slot 24 (.num .i64)] .no))) .no))))) .no)) (fun d=>by kernel_rfl)
theorem mF:FOk Tryz.prog 187 gr:=Jx DN (enters_of Tryz.func187 (by kernel_rfl) rfl) 3
theorem kY:FOk Tryz.prog 188 e7:=fok (V:=⟨tt,[],[(28,.raw),(56,.raw),(59,.raw)],61,[]⟩) al trivial mixed Tryz.func188 rfl rfl (enters_of Tryz.func188 (by kernel_rfl) rfl) rfl (Nat.le_of_ble_eq_true rfl) rfl (.two .no (.two .no (.two (.two .no (.loop [.slot 3 (.num .i64)] (.two .no (.two (.two .no (.two (.two .no (.two (.two .no (.loop [.slot 3 (.num .i64),.slot 5 (.num .i64),.row 0 3 y3] (.two .no (.two (.at [.slot 3 (.num .i64),.row 0 3 y3] .no) .no)))) .no)) .no)) .no)))) .no))) (fun d=>by kernel_rfl)
theorem Ao:FOk Tryz.prog 146 sk:=fok (V:=⟨tt,[(142,pe),(187,gr),(188,e7)],[],10,[]⟩) al ⟨uE,mF,kY,trivial⟩ mixed Tryz.func146 rfl rfl (enters_of Tryz.func146 (by kernel_rfl) rfl) rfl (Nat.le_of_ble_eq_true rfl) rfl .no (fun d=>by kernel_rfl)
theorem xe:FOk Tryz.prog 105 pf:=fok (V:=⟨tt,[(144,mY),(145,sj),(146,sk)],[],51,[]⟩) al ⟨tJ,An,Ao,trivial⟩ mixed Tryz.func105 rfl rfl (enters_of Tryz.func105 (by kernel_rfl) rfl) rfl (Nat.le_of_ble_eq_true rfl) rfl (.two .no (.two .no (.two .no (.two (.two .no (.loop [.slot 7 (.own 3 y3),.slot 20 (.num .i64)] (.two .no (.two .no (.two (.at [.slot 7 (.own 3 y3)] .no) .no))))) .no)))) (fun d=>by kernel_rfl)
theorem xZ:FOk Tryz.prog 56 qy:=fok (V:=⟨tt,[(104,tz),(105,pf)],[],38,[]⟩) al ⟨ze,xe,trivial⟩ mixed Tryz.func56 rfl rfl (enters_of Tryz.func56 (by kernel_rfl) rfl) rfl (Nat.le_of_ble_eq_true rfl) rfl (.two .no (.two .no (.two .no (.two (.two .no (.loop [.slot 5 (.own 103 MJ),.slot 17 (.num .i64)] (.two .no (.two .no (.two (.two .no (.two .no (.loop [.slot 5 (.own 103 MJ),.slot 25 (.num .i64)] .no))) .no))))) .no)))) (fun d=>by kernel_rfl)
theorem uR:FOk Tryz.prog 13 oh:=fok (V:=⟨tt,[(54,mq),(55,kC),(56,qy)],[],26,[]⟩) al ⟨sA,ou,xZ,trivial⟩ mixed Tryz.func13 rfl rfl (enters_of Tryz.func13 (by kernel_rfl) rfl) rfl (Nat.le_of_ble_eq_true rfl) rfl .no (fun d=>by kernel_rfl)
theorem GY:FOk Tryz.prog 57 y5:=fok (V:=⟨tt,[],[],15,[]⟩) al trivial mixed Tryz.func57 rfl rfl (enters_of Tryz.func57 (by kernel_rfl) rfl) rfl (Nat.le_of_ble_eq_true rfl) rfl .no (fun d=>by kernel_rfl)
theorem D4:FOk Tryz.prog 14 wR:=fok (V:=⟨tt,[(57,y5)],[],27,[]⟩) al ⟨GY,trivial⟩ mixed Tryz.func14 rfl rfl (enters_of Tryz.func14 (by kernel_rfl) rfl) rfl (Nat.le_of_ble_eq_true rfl) rfl (.two .no (.two .no (.two (.two .no (.loop [.slot 5 (.num .i64)] .no)) .no))) (fun d=>by kernel_rfl)
theorem D5:FOk Tryz.prog 147 wS:=fok (V:=⟨tt,[],[],26,[]⟩) al trivial mixed Tryz.func147 rfl rfl (enters_of Tryz.func147 (by kernel_rfl) rfl) rfl (Nat.le_of_ble_eq_true rfl) rfl (.two .no (.two .no (.two (.two .no (.loop [.slot 5 (.num .i64)] .no)) .no))) (fun d=>by kernel_rfl)
theorem zf:FOk Tryz.prog 60 tC:=fok (V:=⟨tt,[],[],26,[]⟩) al trivial mixed Tryz.func60 rfl rfl (enters_of Tryz.func60 (by kernel_rfl) rfl) rfl (Nat.le_of_ble_eq_true rfl) rfl (.two .no (.two .no (.two (.two .no (.loop [.slot 5 (.num .i64)] .no)) .no))) (fun d=>by kernel_rfl)
theorem D6:FOk Tryz.prog 148 wT:=fok (V:=⟨tt,[(60,tC)],[],27,[]⟩) al ⟨zf,trivial⟩ mixed Tryz.func148 rfl rfl (enters_of Tryz.func148 (by kernel_rfl) rfl) rfl (Nat.le_of_ble_eq_true rfl) rfl (.two .no (.two .no (.two (.two .no (.loop [.slot 5 (.num .i64)] .no)) .no))) (fun d=>by kernel_rfl)
theorem xf:FOk Tryz.prog 106 pg:=fok (V:=⟨tt,[(147,wS),(148,wT)],[],22,[]⟩) al ⟨D5,D6,trivial⟩ mixed Tryz.func106 rfl rfl (enters_of Tryz.func106 (by kernel_rfl) rfl) rfl (Nat.le_of_ble_eq_true rfl) rfl .no (fun d=>by kernel_rfl)
theorem uS:FOk Tryz.prog 58 oi:=fok (V:=⟨tt,[(106,pg)],[],27,[]⟩) al ⟨xf,trivial⟩ mixed Tryz.func58 rfl rfl (enters_of Tryz.func58 (by kernel_rfl) rfl) rfl (Nat.le_of_ble_eq_true rfl) rfl (.two .no (.two .no (.two (.two .no (.loop [.slot 5 (.num .i64)] .no)) .no))) (fun d=>by kernel_rfl)
theorem D7:FOk Tryz.prog 220 wU:=fok (V:=⟨tt,[],[],25,[]⟩) al trivial mixed Tryz.func220 rfl rfl (enters_of Tryz.func220 (by kernel_rfl) rfl) rfl (Nat.le_of_ble_eq_true rfl) rfl .no (fun d=>by kernel_rfl)
end R
namespace R
open Go.RowKit
open D
theorem Cu:FOk Tryz.prog 189 uz:=fok (V:=⟨tt,[(220,wU)],[],27,[]⟩) al ⟨D7,trivial⟩ mixed Tryz.func189 rfl rfl (enters_of Tryz.func189 (by kernel_rfl) rfl) rfl (Nat.le_of_ble_eq_true rfl) rfl (.two .no (.two .no (.two (.two .no (.loop [.slot 5 (.num .i64)] .no)) .no))) (fun d=>by kernel_rfl)
theorem GZ:FOk Tryz.prog 149 y6:=fok (V:=⟨tt,[(189,uz)],[],11,[]⟩) al ⟨Cu,trivial⟩ mixed Tryz.func149 rfl rfl (enters_of Tryz.func149 (by kernel_rfl) rfl) rfl (Nat.le_of_ble_eq_true rfl) rfl .no (fun d=>by kernel_rfl)
theorem uT:FOk Tryz.prog 107 oj:=fok (V:=⟨tt,[(149,y6)],[],21,[]⟩) al ⟨GZ,trivial⟩ mixed Tryz.func107 rfl rfl (enters_of Tryz.func107 (by kernel_rfl) rfl) rfl (Nat.le_of_ble_eq_true rfl) rfl .no (fun d=>by kernel_rfl)
theorem tK:FOk Tryz.prog 59 mZ:=fok (V:=⟨tt,[(107,oj)],[],27,[]⟩) al ⟨uT,trivial⟩ mixed Tryz.func59 rfl rfl (enters_of Tryz.func59 (by kernel_rfl) rfl) rfl (Nat.le_of_ble_eq_true rfl) rfl (.two .no (.two .no (.two (.two .no (.loop [.slot 5 (.num .i64)] .no)) .no))) (fun d=>by kernel_rfl)
theorem ya:FOk Tryz.prog 15 qz:=fok (V:=⟨tt,[(58,oi),(59,mZ)],[],17,[]⟩) al ⟨uS,tK,trivial⟩ mixed Tryz.func15 rfl rfl (enters_of Tryz.func15 (by kernel_rfl) rfl) rfl (Nat.le_of_ble_eq_true rfl) rfl .no (fun d=>by kernel_rfl)
theorem G0:FOk Tryz.prog 108 y7:=fok (V:=⟨tt,[],[],25,[]⟩) al trivial mixed Tryz.func108 rfl rfl (enters_of Tryz.func108 (by kernel_rfl) rfl) rfl (Nat.le_of_ble_eq_true rfl) rfl .no (fun d=>by kernel_rfl)
theorem D8:FOk Tryz.prog 61 wV:=fok (V:=⟨tt,[(108,y7)],[],27,[]⟩) al ⟨G0,trivial⟩ mixed Tryz.func61 rfl rfl (enters_of Tryz.func61 (by kernel_rfl) rfl) rfl (Nat.le_of_ble_eq_true rfl) rfl (.two .no (.two .no (.two (.two .no (.loop [.slot 5 (.num .i64)] .no)) .no))) (fun d=>by kernel_rfl)
theorem D9:FOk Tryz.prog 16 wW:=fok (V:=⟨tt,[(60,tC),(61,wV)],[],17,[]⟩) al ⟨zf,D8,trivial⟩ mixed Tryz.func16 rfl rfl (enters_of Tryz.func16 (by kernel_rfl) rfl) rfl (Nat.le_of_ble_eq_true rfl) rfl .no (fun d=>by kernel_rfl)
theorem Ap:FOk Tryz.prog 109 sn:=fok (V:=⟨tt,[],[],21,[]⟩) al trivial mixed Tryz.func109 rfl rfl (enters_of Tryz.func109 (by kernel_rfl) rfl) rfl (Nat.le_of_ble_eq_true rfl) rfl (.two .no (.two (.two .no (.loop [.par 0 [] 4 y4,.slot 1 (.num .i64),.slot 5 (.num .i64)] .no)) .no)) (fun d=>by kernel_rfl)
theorem uF:FOk Tryz.prog 64 ph:=fok (V:=⟨tt,[],[],19,[]⟩) al trivial mixed Tryz.func64 rfl rfl (enters_of Tryz.func64 (by kernel_rfl) rfl) rfl (Nat.le_of_ble_eq_true rfl) rfl (.two .no (.two (.two .no (.loop [.par 0 [] 3 y3,.slot 1 (.num .i64),.slot 5 (.num .i64)] .no)) .no)) (fun d=>by kernel_rfl)
theorem Aq:FOk Tryz.prog 110 so:=fok (V:=⟨tt,[(64,ph)],[],19,[]⟩) al ⟨uF,trivial⟩ mixed Tryz.func110 rfl rfl (enters_of Tryz.func110 (by kernel_rfl) rfl) rfl (Nat.le_of_ble_eq_true rfl) rfl (.two .no (.two (.two .no (.loop [.par 0 [] 26 y26,.slot 1 (.num .i64),.slot 5 (.num .i64)] .no)) .no)) (fun d=>by kernel_rfl)
theorem sB:FOk Tryz.prog 62 mr:=fok (V:=⟨tt,[(109,sn),(110,so)],[],34,[]⟩) al ⟨Ap,Aq,trivial⟩ mixed Tryz.func62 rfl rfl (enters_of Tryz.func62 (by kernel_rfl) rfl) rfl (Nat.le_of_ble_eq_true rfl) rfl (.two .no (.two (.two .no (.loop [.par 0 [] 92 y92,.slot 1 (.num .i64),.slot 5 (.num .i64)] .no)) .no)) (fun d=>by kernel_rfl)
theorem yc:FOk Tryz.prog 111 qA:=fok (V:=⟨tt,[],[],41,[]⟩) al trivial mixed Tryz.func111 rfl rfl (enters_of Tryz.func111 (by kernel_rfl) rfl) rfl (Nat.le_of_ble_eq_true rfl) rfl (.two .no (.two (.two .no (.loop [.par 0 [] 188 ui,.slot 1 (.num .i64),.slot 5 (.num .i64)] .no)) .no)) (fun d=>by kernel_rfl)
theorem rp:FOk Tryz.prog 63 lN:=fok (V:=⟨tt,[(111,qA)],[],35,[]⟩) al ⟨yc,trivial⟩ mixed Tryz.func63 rfl rfl (enters_of Tryz.func63 (by kernel_rfl) rfl) rfl (Nat.le_of_ble_eq_true rfl) rfl (.two .no (.two (.two .no (.loop [.par 0 [] 146 Cc,.slot 1 (.num .i64),.slot 5 (.num .i64)] .no)) .no)) (fun d=>by kernel_rfl)
theorem uU:FOk Tryz.prog 17 om:=fok (V:=⟨tt,[(62,mr),(63,lN)],[],14,[]⟩) al ⟨sB,rp,trivial⟩ mixed Tryz.func17 rfl rfl (enters_of Tryz.func17 (by kernel_rfl) rfl) rfl (Nat.le_of_ble_eq_true rfl) rfl .no (fun d=>by kernel_rfl)
theorem Ar:FOk Tryz.prog 65 sp:=fok (V:=⟨tt,[],[],41,[]⟩) al trivial mixed Tryz.func65 rfl rfl (enters_of Tryz.func65 (by kernel_rfl) rfl) rfl (Nat.le_of_ble_eq_true rfl) rfl (.two .no (.two (.two .no (.loop [.par 0 [] 150 Hv,.slot 1 (.num .i64),.slot 5 (.num .i64)] .no)) .no)) (fun d=>by kernel_rfl)
theorem As:FOk Tryz.prog 18 sq:=fok (V:=⟨tt,[(64,ph),(65,sp)],[],14,[]⟩) al ⟨uF,Ar,trivial⟩ mixed Tryz.func18 rfl rfl (enters_of Tryz.func18 (by kernel_rfl) rfl) rfl (Nat.le_of_ble_eq_true rfl) rfl .no (fun d=>by kernel_rfl)
end R
namespace R
open Go.RowKit
open D
theorem Au:FOk Tryz.prog 19 sr:=fok (V:=⟨tt,[],[],27,[]⟩) al trivial mixed Tryz.func19 rfl rfl (enters_of Tryz.func19 (by kernel_rfl) rfl) rfl (Nat.le_of_ble_eq_true rfl) rfl (.two .no (.two (.two .no (.loop [.par 0 [] 103 MJ,.slot 1 (.num .i64),.slot 5 (.num .i64)] .no)) .no)) (fun d=>by kernel_rfl)
theorem Av:FOk Tryz.prog 20 ss:=fok (V:=⟨tt,[],[],31,[]⟩) al trivial mixed Tryz.func20 rfl rfl (enters_of Tryz.func20 (by kernel_rfl) rfl) rfl (Nat.le_of_ble_eq_true rfl) rfl (.two .no (.two (.two .no (.loop [.slot 1 (.num .i64),.slot 5 (.num .i64)] .no)) .no)) (fun d=>by kernel_rfl)
theorem nR:FOk Tryz.prog 3 nP:=fok (V:=⟨tt,[(8,qj),(9,wD),(10,n8),(11,qv),(12,wO),(13,oh),(14,wR),(15,qz),(16,wW),(17,om),(18,sq),(19,sr),(20,ss)],[],124,[]⟩) al ⟨xN,DR,uM,xW,D1,uR,D4,ya,D9,uU,As,Au,Av,trivial⟩ mixed Tryz.func3 rfl rfl (enters_of Tryz.func3 (by kernel_rfl) rfl) rfl (Nat.le_of_ble_eq_true rfl) rfl .no (fun d=>by kernel_rfl)
end R
namespace D
open Go.RowKit
theorem nS (x0:(List (Int×(List Bool)×(List (List Int))))×(List (Int×((List (Int×Int×Int×Int)))×Int))) (x1:(List Int)×(List (Int×Int×Int×Int))) (x2:Int) (r:Bool) (hm:cG x0 x1 x2=some r) {I:Hp} {w0:World} (v0_0:Value) (v0_1:Value) (v1_0:Value) (v1_1:Value) (r0_0:(ae 133 (aH bx (aH (ae 4 oE) (ae 26 (ae 3 bx))))).rd I [v0_0] x0.1) (r0_1:(ae 139 (aH bx (aH (ae 232 (aH bx (aH bx (aH bx bx)))) bx))).rd I [v0_1] x0.2) (r1_0:(ae 3 bx).rd I [v1_0] x1.1) (r1_1:(ae 156 (aH bx (aH bx (aH bx bx)))).rd I [v1_1] x1.2):Con Tryz.prog 3 #[.agg #[v0_0,v0_1],.agg #[v1_0,v1_1],.int .i64 x2] I w0 [] (fun v=>v= .bool r) (fun _=>[]):=fun w C hs =>
 ((R.nR).con w0 I [.agg #[v0_0,v0_1],.agg #[v1_0,v1_1],.int .i64 x2] (x0,(x1,(x2,()))) r ⟨_,_,rfl,⟨[v0_0,v0_1],rfl,⟨_,_,rfl,r0_0,r0_1⟩⟩,⟨_,_,rfl,⟨[v1_0,v1_1],rfl,⟨_,_,rfl,r1_0,r1_1⟩⟩,⟨_,_,rfl,⟨[.int .i64 x2],rfl,rfl⟩,rfl⟩⟩⟩ hm w C hs).mono fun e w' ⟨v,he,_,hst⟩=>by
  obtain ⟨h1,h2⟩:=R.rL (h1:=fun _=>rfl) (show St I w0 w' (Ch.own R.Ty.bool.rep [v] r::C) from hst)
  exact ⟨v,he,(List.cons.inj h1).1,h2⟩
end D
namespace D
open Go.RowKit
def I64 (n:Int):Prop:= -9223372036854775808≤n∧n≤9223372036854775807
class Data (α:Type) where
 lim:α→Prop
 sm:α→Prop
instance:Data Int:=⟨I64,fun _=>True⟩
instance:Data Bool:=⟨fun _=>True,fun _=>True⟩
instance:Data ByteArray:=⟨fun s=>s.size≤9223372036854775807,fun s=>s.size≤1048576⟩
instance {α β:Type} [Data α] [Data β] :Data (α×β):=⟨fun x=>Data.lim x.1∧Data.lim x.2,fun x=>Data.sm x.1∧Data.sm x.2⟩
instance {α:Type} [Data α] :Data (List α):=⟨fun xs=>xs.length≤9223372036854775807∧ ∀x,x∈xs→Data.lim x,fun xs=>xs.length≤1048576∧ ∀x,x∈xs→Data.sm x⟩
structure Opens (P:Program) (t:TypeId) {α:Type} [Data α] (R:Rep α):Prop where
 out: ∀ {H:Type} (enc:TypeId×Value→H) (w:World) (fuel:Nat) (cs:List Value) (x:DataW H×List MemPlace),DataW.trod enc P w 0 (fun _=>true) true fuel t cs=some x→ ∃a:α,R.rd (hp w) cs a∧Data.lim a
theorem JD {P:Program} {t:TypeId} (h:P.underlying t=some (.int .i64)):Opens P t bx:=by
 constructor
 intro H enc w fuel cs x hx
 obtain ⟨n,rfl,-,hw⟩:=DataW.trod_int h hx
 refine ⟨n,rfl,show I64 n from ?_⟩
 simp[Lit.wf,IntKind.min,IntKind.max,IntKind.signed,IntKind.bits] at hw
 unfold I64
 omega
theorem G5 {P:Program} {t:TypeId} (h:P.underlying t=some .bool):Opens P t oE:=by
 constructor
 intro H enc w fuel cs x hx
 obtain ⟨n,rfl,-⟩:=DataW.trod_bool h hx
 exact ⟨n,rfl,trivial⟩
theorem gQ {P:Program} {t e:TypeId} {α:Type} [Data α] {R:Rep α} {E:TypeId} (h:P.underlying t=some (.slice e)) (hc:P.cellsOf e=R.size) (h0:0<R.size) (he:Opens P e R):Opens P t (ae E R):=by
 constructor
 intro H enc w fuel cs x hx
 rcases Go.Deep.open_slice h hx with ⟨rfl,-⟩ | ⟨a,len,cap,m,n,D,Pl,rfl,-,hl,hm,hmm,-,hel⟩
 ·exact ⟨[],⟨none,0,rfl,by simp,.inl rfl⟩,Nat.zero_le _,fun x hx=>by cases hx⟩
 have hlm:m=cap:=by simpa using hmm
 subst hlm
 rw[hc] at hel
 by_cases hz:len=0
 ·subst hz
  exact ⟨[],⟨some a,m,rfl,by simp,.inl rfl⟩,Nat.zero_le _,fun x hx=>by cases hx⟩
 ·have hone: ∀i,i<len→ ∃c:List Value,∃y:α,c.length=R.size∧(∀j,j<R.size→w.cell? ((a.add (i*R.size)).add j)=c[j]?)∧R.rd (hp w) c y∧Data.lim y:=by
   intro i hi
   obtain ⟨c,h1,h2⟩:=hel i (by omega)
   obtain ⟨-,h3,h4⟩:=World.cells?_some h1
   obtain ⟨y,hy⟩:=he.out enc w _ _ _ h2
   exact ⟨c,y,h3,h4,hy⟩
  obtain ⟨c0,y0,hc0,hr0,-⟩:=hone 0 (by omega)
  have h00:=hr0 0 h0
  have hsome: ∃v,c0[0]? =some v:=⟨_,List.getElem?_eq_getElem (by omega)⟩
  obtain ⟨v,hv⟩:=hsome
  rw[hv] at h00
  have ha:(a.add (0*R.size)).add 0=a:=by simp[Addr.add]
  rw[ha] at h00
  obtain ⟨b,off,spot⟩:=a
  have hb: ∃ccs T fr,w.heap[b]? =some (.cells ccs T fr)∧spot=none:=by
   simp only[World.cell?] at h00
   split at h00
   ·rename_i ccs T fr heq
    cases spot with
    | none=>exact ⟨ccs,T,fr,heq,rfl⟩
    | some s=>simp at h00
   ·simp at h00
  obtain ⟨ccs,T,fr,hh,rfl⟩:=hb
  have hadd: ∀i j,(Addr.add ⟨b,off,none⟩ i).add j=⟨b,off+i+j,none⟩:=by
   intro i j
   by_cases h1:i=0 <;> by_cases h2:j=0 <;> simp[Addr.add,h1,h2,Nat.add_assoc]
  haveI:Inhabited α:=⟨y0⟩
  obtain ⟨X,hX⟩:=Go.Deep.choose_lt (α:=α) (n:=len) (p:=fun i y=> ∃c:List Value,c.length=R.size∧(∀j,j<R.size→ccs.toList[off+i*R.size+j]? =c[j]?)∧R.rd (hp w) c y∧Data.lim y) (fun i hi=>by
   obtain ⟨c,y,h1,h2,h3⟩:=hone i hi
   refine ⟨y,c,h1,fun j hj=>?_,h3⟩
   have:=h2 j hj
   rw[hadd] at this
   simp only[World.cell?,hh] at this
   simpa using this)
  have hlen:((List.range len).map X).length=len:=by simp
  have hel2: ∀i y,((List.range len).map X)[i]? =some y→i<len∧y=X i:=fun i y hy=>by
   have hi:i<len:=by have:=(List.getElem?_eq_some_iff.1 hy).1;omega
   exact ⟨hi,by simpa [hi] using hy.symm⟩
  refine ⟨(List.range len).map X,⟨some ⟨b,off,none⟩,m,by rw[hlen],by rw[hlen];unfold maxLen at hm;unfold lim;omega,.inr ⟨b,off,ccs,T,fr,rfl,hh,fun i y hy=>?_⟩⟩,by rw[hlen];unfold maxLen at hm;omega,fun y hy=>?_⟩
  ·obtain ⟨hi,rfl⟩:=hel2 i y hy
   obtain ⟨c,e1,e2,e3,-⟩:=hX i hi
   exact ⟨c,e1,e2,e3⟩
  ·obtain ⟨i,hi,he⟩:=List.mem_iff_getElem?.1 hy |>.imp fun i hi=>hel2 i y hi
   obtain ⟨-,-,-,-,e4⟩:=hX i hi
   rw[he];exact e4
structure OpensFs (P:Program) (fs:List Field) (o:Nat) {α:Type} [Data α] (R:Rep α):Prop where
 out: ∀ {H:Type} (enc:TypeId×Value→H) (w:World) (fuel:Nat) (cs:List Value),cs.length=o+R.size→
  (∀f∈fs,∃x,DataW.trod enc P w 0 (fun _=>true) true fuel f.type ((cs.drop f.offset).take (P.cellsOf f.type))=some x)→ ∃a:α,R.rd (hp w) (cs.drop o) a∧Data.lim a
theorem jw {P:Program} {f:Field} {o:Nat} {α:Type} [Data α] {R:Rep α} (ho:f.offset=o) (hc:P.cellsOf f.type=R.size) (h:Opens P f.type R):OpensFs P [f] o R:=by
 constructor
 intro H enc w fuel cs hl hx
 obtain ⟨x,hx⟩:=hx f (by simp)
 rw[ho,hc,List.take_of_length_le (by rw[List.length_drop];omega)] at hx
 exact h.out enc w _ _ _ hx
theorem di {P:Program} {f:Field} {fs:List Field} {o:Nat} {α β:Type} [Data α] [Data β] {R:Rep α} {S:Rep β} (ho:f.offset=o) (hc:P.cellsOf f.type=R.size) (h:Opens P f.type R) (hs:OpensFs P fs (o+R.size) S):OpensFs P (f::fs) o (aH R S):=by
 constructor
 intro H enc w fuel cs hl hx
 have hl':cs.length=o+(R.size+S.size):=hl
 obtain ⟨b,hb,hlb⟩:=hs.out enc w fuel cs (by omega) (fun g hg=>hx g (by simp[hg]))
 obtain ⟨x,hx⟩:=hx f (by simp)
 rw[ho,hc] at hx
 obtain ⟨a,ha,hla⟩:=h.out enc w _ _ _ hx
 refine ⟨(a,b),⟨(cs.drop o).take R.size,cs.drop (o+R.size),?_,ha,hb⟩,hla,hlb⟩
 rw[←List.drop_drop,List.take_append_drop]
theorem fH {P:Program} {t:TypeId} {fs:Array Field} {α:Type} [Data α] {R:Rep α} (h:P.underlying t=some (.struct fs)) (hc:P.cellsOf t=R.size) (hf:OpensFs P fs.toList 0 R):Opens P t R:=by
 constructor
 intro H enc w fuel cs x hx
 obtain ⟨xs,n,-,-,hl,hn,hel⟩:=DataW.trod_struct h hx
 have:=hf.out enc w n cs (by omega) (fun f hm=>by
  obtain ⟨i,hi,rfl⟩:=List.getElem_of_mem hm
  have h1:fs[i]? =some fs.toList[i]:=by simp
  exact ⟨_,(hel i _ h1).trans (List.getElem?_eq_getElem (by simp at hi;omega))⟩)
 simpa using this
theorem St.below {w0 w:World} {cs:List Ch} (h:St (hp w0) w0 w cs):Below w0.heap.size w0 w:=by
 obtain ⟨⟨h1,h2,h3,h4⟩,h5,-⟩:=h
 refine ⟨h1,h2,h3,h4,fun b hb=>?_⟩
 have e:w0.heap[b]? =some w0.heap[b]:=Array.getElem?_eq_getElem hb
 rw[e];exact h5 b _ e
end D
namespace D
open Go.RowKit
theorem cH {n:Int} (h1: -9223372036854775808≤n) (h2:n≤9223372036854775807):IntKind.i64.wrap n=n:=by
 simp only[IntKind.wrap,IntKind.bits,IntKind.signed,Bool.true_and]
 split <;> rename_i h <;> simp at h <;> omega
theorem aa {i:Nat} (h:i<9223372036854775807):IntKind.i64.wrap ((i:Int)+1)=((i+1:Nat):Int):=by
 rw[cH (by omega) (by omega)];rfl
theorem aq {α:Type} {xs:List α} {i:Nat} (h:i<xs.length):az xs (i:Int)=some (xs[i]):=by
 unfold az
 rw[if_pos (Int.natCast_nonneg _)]
 simp[h]
theorem bS {i n:Nat} (h:i<n):decide ((i:Int)<(n:Int))=true:=by simp[h]
theorem bm {n:Nat} :decide ((n:Int)<(n:Int))=false:=by simp
theorem ox (k:Nat) (h:k≤9223372036854775807):k<aD:=by unfold aD;omega
theorem uG {α:Type} {b n:Nat} {z:α} (h:n*b≤140737488355328):mkI b (n:Int) z=some (List.replicate n z):=by
 unfold mkI
 rw[if_pos ⟨Int.natCast_nonneg _,by simpa using h⟩];simp
theorem Cv {R S:Type} {f:S→Option (Out R S)} (inv:Nat→S) (N:Nat) (h: ∀i,i<N→f (inv i)=some (.nxt (inv (i+1)))): ∀(m i k:Nat),i+m=N→ai f (k+m) (inv i)=ai f k (inv N)
 | 0,i,k,e=>by rw[show i=N by omega];rfl
 | m+1,i,k,e=>by
  rw[←Nat.add_assoc,ai,h i (by omega)]
  exact Cv inv N h m (i+1) k (by omega)
theorem Cw {R S:Type} {f:S→Option (Out R S)} (inv:Nat→S) (N:Nat) {s:S} (h: ∀i,i<N→f (inv i)=some (.nxt (inv (i+1)))) (he:f (inv N)=some (.brk s)) (hN:N<aD):ai f aD (inv 0)=some (.brk s):=by
 have e:aD=(aD - N - 1)+1+N:=by omega
 rw[e,Cv inv N h N 0 _ (by omega),ai,he]
theorem toL {R α:Type} {f:List α×Int→Option (Out R (List α×Int))} {z:α} (xs:List α) (hN:xs.length≤9223372036854775807)
  (hstep: ∀ys i (h:i<xs.length),ys.length=xs.length→f (ys,(i:Int))=some (.nxt (ys.set i xs[i],((i+1:Nat):Int)))) (hend: ∀ys,ys.length=xs.length→f (ys,(xs.length:Int))=some (.brk (ys,(xs.length:Int)))) :
  ai f aD (List.replicate xs.length z,0)=some (.brk (xs,(xs.length:Int))):=by
 have h0:(List.replicate xs.length z,(0:Int))=(fun i:Nat=>(xs.take i++(List.replicate xs.length z).drop i,(i:Int))) 0:=by simp
 rw[h0]
 refine Cw (fun i:Nat=>(xs.take i++(List.replicate xs.length z).drop i,(i:Int))) xs.length (fun i hi=>?_) ?_ (ox _ hN)
 ·have hl:(xs.take i++(List.replicate xs.length z).drop i).length=xs.length:=by
   rw[List.length_append,List.length_take,List.length_drop,List.length_replicate];omega
  rw[hstep _ i hi hl]
  congr 3
  have ht:(xs.take i).length=i:=by rw[List.length_take];omega
  rw[List.set_append_right _ _ (by omega),ht,Nat.sub_self,List.drop_eq_getElem_cons (by rw[List.length_replicate];exact hi),List.set_cons_zero,List.take_succ_eq_append_getElem hi,List.append_assoc]
  rfl
 ·have:=hend xs rfl
  rw[List.take_of_length_le (Nat.le_refl _),List.drop_of_length_le (by rw[List.length_replicate];exact Nat.le_refl _),List.append_nil]
  exact this
def Hw {α:Type} [Data α] (m:α→Int→Option Int):Prop:= ∀x l,Data.lim x→0≤l→l≤1048576→ ∃r,m x l=some r∧(r<0∨(0≤r∧r≤l∧Data.sm x))
def Fz {α:Type} [Data α] (m:α→Option α):Prop:= ∀x,Data.sm x→m x=some x
def CY {α:Type} [Data α] [DecidableEq α] (m:α→α→Option Bool):Prop:= ∀x y,Data.sm x→Data.sm y→m x y=some (decide (x=y))
theorem Uw {α:Type} [Data α] {f:Int×Int→Option (Out Int (Int×Int))} (xs:List α)
  (hstep: ∀i (h:i<xs.length) l,0≤l→l≤1048576→ ∃r,f (l,(i:Int))=some (if r<0 then .ret (-1) else .nxt (r,((i+1:Nat):Int)))∧(r<0∨(0≤r∧r≤l∧Data.sm xs[i])))
  (hend: ∀l,f (l,(xs.length:Int))=some (.brk (l,(xs.length:Int)))): ∀(m i k:Nat) (l:Int),i+m=xs.length→m<k→0≤l→l≤1048576→
   ai f k (l,(i:Int))=some (.ret (-1))∨ ∃r,ai f k (l,(i:Int))=some (.brk (r,(xs.length:Int)))∧0≤r∧r≤l∧ ∀j (h:j<xs.length),i≤j→Data.sm xs[j]
 | 0,i,k,l,e,hk,h0,h1=>by
  obtain ⟨k,rfl⟩: ∃q,k=q+1:=⟨k - 1,by omega⟩
  obtain rfl:i=xs.length:=by omega
  exact .inr ⟨l,by rw[ai,hend],h0,Int.le_refl _,fun j hj hi=>by omega⟩
 | m+1,i,k,l,e,hk,h0,h1=>by
  obtain ⟨k,rfl⟩: ∃q,k=q+1:=⟨k - 1,by omega⟩
  obtain ⟨r,e1,e2⟩:=hstep i (by omega) l h0 h1
  rw[ai,e1]
  rcases e2 with e2 | ⟨e2,e3,e4⟩
  ·rw[if_pos e2];exact .inl rfl
  ·rw[if_neg (by omega)]
   rcases Uw xs hstep hend m (i+1) k r (by omega) (by omega) e2 (by omega) with h | ⟨q,g1,g2,g3,g4⟩
   ·exact .inl h
   ·refine .inr ⟨q,g1,g2,by omega,fun j hj hi=>?_⟩
    by_cases hji:j=i
    ·subst hji;exact e4
    ·exact g4 j hj (by omega)
theorem szL {α:Type} [Data α] {f:Int×Int→Option (Out Int (Int×Int))} (xs:List α) {l:Int} (hN:xs.length≤9223372036854775807)
  (hstep: ∀i (h:i<xs.length) l,0≤l→l≤1048576→ ∃r,f (l,(i:Int))=some (if r<0 then .ret (-1) else .nxt (r,((i+1:Nat):Int)))∧(r<0∨(0≤r∧r≤l∧Data.sm xs[i])))
  (hend: ∀l,f (l,(xs.length:Int))=some (.brk (l,(xs.length:Int)))) (h0:0≤l) (h1:l≤1048576) :
  ∃r,(if decide (IntKind.i64.wrap (l - (xs.length:Int))<0) then (some (-1)) else (ay (ai f aD (IntKind.i64.wrap (l - (xs.length:Int)),0)) (fun r=>some r) (fun s4=>some s4.1)))=some r∧(r<0∨(0≤r∧r≤l∧Data.sm xs)):=by
 rw[cH (by omega) (by omega)]
 by_cases h:l - (xs.length:Int)<0
 ·exact ⟨-1,by rw[if_pos (decide_eq_true h)],.inl (by decide)⟩
 ·rw[if_neg (by simpa using h)]
  rcases Uw xs hstep hend xs.length 0 aD (l - xs.length) (by omega) (ox _ hN) (by omega) (by omega) with e | ⟨r,e,g1,g2,g3⟩
  ·exact ⟨-1,by rw[show ((0:Int))=((0:Nat):Int) from rfl,e];rfl,.inl (by decide)⟩
  ·refine ⟨r,by rw[show ((0:Int))=((0:Nat):Int) from rfl,e];rfl,.inr ⟨g1,by omega,by omega,fun x hx=>?_⟩⟩
   obtain ⟨j,hj,rfl⟩:=List.getElem_of_mem hx
   exact g3 j hj (Nat.zero_le _)
theorem szF {α:Type} [Data α] (xs:List α) {l:Int} (hN:xs.length≤9223372036854775807) (hf: ∀x:α,Data.sm x) (h0:0≤l) (h1:l≤1048576) :
  ∃r,(if decide (IntKind.i64.wrap (l - (xs.length:Int))<0) then (some (-1)) else (some (IntKind.i64.wrap (l - (xs.length:Int)))))=some r∧(r<0∨(0≤r∧r≤l∧Data.sm xs)):=by
 rw[cH (by omega) (by omega)]
 by_cases h:l - (xs.length:Int)<0
 ·exact ⟨-1,by rw[if_pos (decide_eq_true h)],.inl (by decide)⟩
 ·exact ⟨_,by rw[if_neg (by simpa using h)],.inr ⟨by omega,by omega,by omega,fun x _=>hf x⟩⟩
theorem TA {α:Type} [DecidableEq α] {f:Int→Option (Out Bool Int)} (xs ys:List α) (hl:xs.length=ys.length)
  (hstep: ∀i (h:i<xs.length) (h':i<ys.length),f (i:Int)=some (if xs[i] =ys[i] then .nxt ((i+1:Nat):Int) else .ret false)) (hend:f (xs.length:Int)=some (.brk (xs.length:Int))): ∀(m i k:Nat),i+m=xs.length→m<k→
   ai f k (i:Int)=some (if xs.drop i=ys.drop i then .brk (xs.length:Int) else .ret false)
 | 0,i,k,e,hk=>by
  obtain ⟨k,rfl⟩: ∃q,k=q+1:=⟨k - 1,by omega⟩
  obtain rfl:i=xs.length:=by omega
  rw[ai,hend,List.drop_of_length_le (Nat.le_refl _),List.drop_of_length_le (by omega),if_pos rfl]
 | m+1,i,k,e,hk=>by
  obtain ⟨k,rfl⟩: ∃q,k=q+1:=⟨k - 1,by omega⟩
  have hi:i<xs.length:=by omega
  have hi':i<ys.length:=by omega
  have d1:=List.drop_eq_getElem_cons hi
  have d2:=List.drop_eq_getElem_cons hi'
  rw[ai,hstep i hi hi',d1,d2]
  by_cases h:xs[i] =ys[i]
  ·rw[if_pos h]
   simp only
   rw[TA xs ys hl hstep hend m (i+1) k (by omega) (by omega)]
   simp only[List.cons.injEq,h,true_and]
  ·rw[if_neg h]
   simp only[List.cons.injEq,h,false_and,if_false]
theorem eqL {α:Type} [DecidableEq α] {f:Int→Option (Out Bool Int)} (xs ys:List α) (hN:xs.length≤9223372036854775807)
  (hstep: ∀i (h:i<xs.length) (h':i<ys.length),f (i:Int)=some (if xs[i] =ys[i] then .nxt ((i+1:Nat):Int) else .ret false)) (hend:f (xs.length:Int)=some (.brk (xs.length:Int))) :
  (if (xs.length:Int) !=(ys.length:Int) then (some false) else (ay (ai f aD 0) (fun r=>some r) (fun s4=>some true)))=some (decide (xs=ys)):=by
 by_cases hl:xs.length=ys.length
 ·rw[if_neg (by rw[hl];simp),show ((0:Int))=((0:Nat):Int) from rfl,TA xs ys hl hstep hend xs.length 0 aD (by omega) (ox _ hN)]
  by_cases h:xs=ys
  ·subst h;simp[ay]
  ·simp[ay,h]
 ·have:xs≠ys:=fun e=>hl (by rw[e])
  rw[if_pos (by simp;omega)];simp[this]
theorem fa {α:Type} {c d:Prop} [Decidable c] [Decidable d] {a b:α} (h:c↔d):(if c then some a else some b)=some (if d then a else b):=by
 by_cases k:c
 ·rw[if_pos k,if_pos (h.1 k)]
 ·rw[if_neg k,if_neg (fun e=>k (h.2 e))]
theorem pq {α:Type} {c d:Prop} [Decidable c] [Decidable d] {a b:α} (h:c↔ ¬d):(if c then some b else some a)=some (if d then a else b):=by
 by_cases k:d
 ·rw[if_neg (fun e=>h.1 e k),if_pos k]
 ·rw[if_pos (h.2 k),if_neg k]
theorem eqB {α:Type} [DecidableEq α] {f:Int→Option (Out Bool Int)} {K:Option Bool} (xs ys:List α) (hN:xs.length≤9223372036854775807) (hl:xs.length=ys.length)
  (hstep: ∀i (h:i<xs.length) (h':i<ys.length),f (i:Int)=some (if xs[i] =ys[i] then .nxt ((i+1:Nat):Int) else .ret false)) (hend:f (xs.length:Int)=some (.brk (xs.length:Int))) :
  ay (ai f aD 0) (fun r=>some r) (fun s4=>K)=(if xs=ys then K else some false):=by
 rw[show ((0:Int))=((0:Nat):Int) from rfl,TA xs ys hl hstep hend xs.length 0 aD (by omega) (ox _ hN)]
 by_cases h:xs=ys
 ·subst h;simp[ay]
 ·simp[ay,h]
theorem R0 {f:Int→Option (Out Int Int)} (xs ys:List Int)
  (hstep: ∀i (h:i<xs.length) (h':i<ys.length),f (i:Int)=some (if xs[i] < ys[i] then .ret (-1) else if xs[i] > ys[i] then .ret 1 else .nxt ((i+1:Nat):Int))) (hend: ∀i,xs.length≤i∨ys.length≤i→f (i:Int)=some (.brk (i:Int))): ∀(m i k:Nat),i+m=xs.length→m<k→
   (∃r,ai f k (i:Int)=some (.ret r)∧r≠0∧xs≠ys)∨ ∃s,ai f k (i:Int)=some (.brk s)∧(xs.length=ys.length→xs.drop i=ys.drop i)
 | 0,i,k,e,hk=>by
  obtain ⟨k,rfl⟩: ∃q,k=q+1:=⟨k - 1,by omega⟩
  exact .inr ⟨_,by rw[ai,hend i (.inl (by omega))],fun h=>by rw[List.drop_of_length_le (by omega),List.drop_of_length_le (by omega)]⟩
 | m+1,i,k,e,hk=>by
  obtain ⟨k,rfl⟩: ∃q,k=q+1:=⟨k - 1,by omega⟩
  have hi:i<xs.length:=by omega
  by_cases hi':i<ys.length
  ·have hne: ∀h:xs[i] ≠ys[i],xs≠ys:=fun h e=>h (by subst e;rfl)
   rw[ai,hstep i hi hi']
   by_cases h1:xs[i] < ys[i]
   ·rw[if_pos h1];exact .inl ⟨-1,rfl,by decide,hne (by omega)⟩
   ·rw[if_neg h1]
    by_cases h2:xs[i] > ys[i]
    ·rw[if_pos h2];exact .inl ⟨1,rfl,by decide,hne (by omega)⟩
    ·rw[if_neg h2]
     rcases R0 xs ys hstep hend m (i+1) k (by omega) (by omega) with h | ⟨s,g1,g2⟩
     ·exact .inl h
     ·refine .inr ⟨s,g1,fun hl=>?_⟩
      have h3:xs[i] =ys[i]:=by omega
      rw[List.drop_eq_getElem_cons hi,List.drop_eq_getElem_cons hi',g2 hl,h3]
  ·exact .inr ⟨_,by rw[ai,hend i (.inr (by omega))],fun h=>by omega⟩
instance:LawfulBEq ByteArray where
 eq_of_beq {a b} h:=ByteArray.ext (eq_of_beq (show (a.data==b.data)=true from h))
 rfl {a}:=beq_self_eq_true a.data
theorem Ux {α β γ δ:Type} {a b:α×β×γ×δ} :(a.1=b.1∧a.2.1=b.2.1∧a.2.2.1=b.2.2.1∧a.2.2.2=b.2.2.2)↔a=b:=by rw[Prod.ext_iff,Prod.ext_iff,Prod.ext_iff]
theorem fc {α β:Type} (p:α×β):(p.1,p.2)=p:=rfl
theorem aB {α:Type} [Data α] {xs:List α} (h:Data.sm xs):xs.length≤1048576∧ ∀x,x∈xs→Data.sm x:=h
theorem fT {α:Type} [Data α] {xs:List α} (h:Data.lim xs):xs.length≤9223372036854775807∧ ∀x,x∈xs→Data.lim x:=h
end D
set_option synthInstance.maxSize 20000
set_option synthInstance.maxHeartbeats 2000000
namespace D
open Go.RowKit
theorem JE:Hw qQ:=fun xs l hl h0 h1=>szF xs (fT hl).1 (fun _=>trivial) h0 h1
theorem FA:Hw pO:=fun xs l hl h0 h1=>szF xs (fT hl).1 (fun _=>trivial) h0 h1
theorem JF:Hw qR:=fun xs l hl h0 h1=>szL (f:=jD xs) xs (fT hl).1 (fun i h l k0 k1=>by
 obtain ⟨r,e,hr⟩:=FA xs[i] l ((fT hl).2 _ (List.getElem_mem h)) k0 k1
 refine ⟨r,?_,hr⟩
 simp only[jD,bS h,if_true,aq h,Option.bind_some,fc,e,aa (show i<9223372036854775807 by have:=(fT hl).1;omega)]
 exact fa (by simp)) (fun l=>by simp only[jD,bm];rfl) h0 h1
theorem Aw:Hw iE:=by
 intro x l hl h0 h1
 unfold iE
 try simp only[fc]
 obtain ⟨r1,e1,k1⟩:=JE x.2.1 l hl.2.1 (by omega) (by omega)
 rw[e1];simp only[Option.bind_some]
 rcases k1 with k1 | ⟨k1,j1,s1⟩
 ·exact ⟨-1,by rw[if_pos (decide_eq_true k1)],.inl (by decide)⟩
 rw[if_neg (by simpa using k1)]
 obtain ⟨r2,e2,k2⟩:=JF x.2.2 r1 hl.2.2 (by omega) (by omega)
 rw[e2];simp only[Option.bind_some]
 rcases k2 with k2 | ⟨k2,j2,s2⟩
 ·exact ⟨-1,by rw[if_pos (decide_eq_true k2)],.inl (by decide)⟩
 rw[if_neg (by simpa using k2)]
 exact ⟨_,rfl,.inr ⟨by omega,by omega,⟨trivial,s1,s2⟩⟩⟩
theorem yd:Hw ku:=fun xs l hl h0 h1=>szL (f:=eh xs) xs (fT hl).1 (fun i h l k0 k1=>by
 obtain ⟨r,e,hr⟩:=Aw xs[i] l ((fT hl).2 _ (List.getElem_mem h)) k0 k1
 refine ⟨r,?_,hr⟩
 simp only[eh,bS h,if_true,aq h,Option.bind_some,fc,e,aa (show i<9223372036854775807 by have:=(fT hl).1;omega)]
 exact fa (by simp)) (fun l=>by simp only[eh,bm];rfl) h0 h1
theorem G6:Hw oV:=fun xs l hl h0 h1=>szF xs (fT hl).1 (fun _=>⟨trivial,trivial,trivial,trivial⟩) h0 h1
theorem MN:Hw pP:=by
 intro x l hl h0 h1
 unfold pP
 try simp only[fc]
 obtain ⟨r1,e1,k1⟩:=G6 x l hl (by omega) (by omega)
 rw[e1];simp only[Option.bind_some]
 rcases k1 with k1 | ⟨k1,j1,s1⟩
 ·exact ⟨-1,by rw[if_pos (decide_eq_true k1)],.inl (by decide)⟩
 rw[if_neg (by simpa using k1)]
 exact ⟨_,rfl,.inr ⟨by omega,by omega,s1⟩⟩
theorem ye:Hw gx:=by
 intro x l hl h0 h1
 unfold gx
 try simp only[fc]
 obtain ⟨r1,e1,k1⟩:=MN x.2.1 l hl.2.1 (by omega) (by omega)
 rw[e1];simp only[Option.bind_some]
 rcases k1 with k1 | ⟨k1,j1,s1⟩
 ·exact ⟨-1,by rw[if_pos (decide_eq_true k1)],.inl (by decide)⟩
 rw[if_neg (by simpa using k1)]
 exact ⟨_,rfl,.inr ⟨by omega,by omega,⟨trivial,s1,trivial⟩⟩⟩
theorem xg:Hw ji:=fun xs l hl h0 h1=>szL (f:=dH xs) xs (fT hl).1 (fun i h l k0 k1=>by
 obtain ⟨r,e,hr⟩:=ye xs[i] l ((fT hl).2 _ (List.getElem_mem h)) k0 k1
 refine ⟨r,?_,hr⟩
 simp only[dH,bS h,if_true,aq h,Option.bind_some,fc,e,aa (show i<9223372036854775807 by have:=(fT hl).1;omega)]
 exact fa (by simp)) (fun l=>by simp only[dH,bm];rfl) h0 h1
theorem Cx:Hw jE:=by
 intro x l hl h0 h1
 unfold jE
 try simp only[fc]
 obtain ⟨r1,e1,k1⟩:=yd x.1 l hl.1 (by omega) (by omega)
 rw[e1];simp only[Option.bind_some]
 rcases k1 with k1 | ⟨k1,j1,s1⟩
 ·exact ⟨-1,by rw[if_pos (decide_eq_true k1)],.inl (by decide)⟩
 rw[if_neg (by simpa using k1)]
 obtain ⟨r2,e2,k2⟩:=xg x.2 r1 hl.2 (by omega) (by omega)
 rw[e2];simp only[Option.bind_some]
 rcases k2 with k2 | ⟨k2,j2,s2⟩
 ·exact ⟨-1,by rw[if_pos (decide_eq_true k2)],.inl (by decide)⟩
 rw[if_neg (by simpa using k2)]
 exact ⟨_,rfl,.inr ⟨by omega,by omega,⟨s1,s2⟩⟩⟩
theorem JG:Hw qS:=fun xs l hl h0 h1=>szF xs (fT hl).1 (fun _=>⟨trivial,trivial,trivial,trivial⟩) h0 h1
theorem JH:Hw nz:=by
 intro x l hl h0 h1
 unfold nz
 try simp only[fc]
 obtain ⟨r1,e1,k1⟩:=FA x.1 l hl.1 (by omega) (by omega)
 rw[e1];simp only[Option.bind_some]
 rcases k1 with k1 | ⟨k1,j1,s1⟩
 ·exact ⟨-1,by rw[if_pos (decide_eq_true k1)],.inl (by decide)⟩
 rw[if_neg (by simpa using k1)]
 obtain ⟨r2,e2,k2⟩:=JG x.2 r1 hl.2 (by omega) (by omega)
 rw[e2];simp only[Option.bind_some]
 rcases k2 with k2 | ⟨k2,j2,s2⟩
 ·exact ⟨-1,by rw[if_pos (decide_eq_true k2)],.inl (by decide)⟩
 rw[if_neg (by simpa using k2)]
 exact ⟨_,rfl,.inr ⟨by omega,by omega,⟨s1,s2⟩⟩⟩
theorem JI:Fz nC:=by
 intro xs hx
 have hn:=(aB hx).1
 unfold nC
 rw[uG (by omega)];simp only[Option.bind_some]
 rw[toL (f:=jL xs) xs (by omega) (fun ys i h hy=>by simp only[jL,bS h,if_true,aq h,aq (show i<ys.length by omega),Option.bind_some,fc,aa (show i<9223372036854775807 by omega),Int.toNat_natCast]) (fun ys hy=>by simp only[jL,bm];rfl)]
 rfl
theorem FC:Fz mQ:=by
 intro xs hx
 have hn:=(aB hx).1
 unfold mQ
 rw[uG (by omega)];simp only[Option.bind_some]
 rw[toL (f:=kO xs) xs (by omega) (fun ys i h hy=>by simp only[kO,bS h,if_true,aq h,aq (show i<ys.length by omega),Option.bind_some,fc,aa (show i<9223372036854775807 by omega),Int.toNat_natCast]) (fun ys hy=>by simp only[kO,bm];rfl)]
 rfl
theorem JJ:Fz nD:=by
 intro xs hx
 have hn:=(aB hx).1
 unfold nD
 rw[uG (by omega)];simp only[Option.bind_some]
 rw[toL (f:=jM xs) xs (by omega) (fun ys i h hy=>by simp only[jM,bS h,if_true,aq h,aq (show i<ys.length by omega),Option.bind_some,fc,FC xs[i] ((aB hx).2 _ (List.getElem_mem h)),aa (show i<9223372036854775807 by omega),Int.toNat_natCast]) (fun ys hy=>by simp only[jM,bm];rfl)]
 rfl
theorem Ax:Fz iI:=by
 intro x hx
 unfold iI
 simp only[fc,Option.bind_some,JI x.2.1 hx.2.1,JJ x.2.2 hx.2.2]
theorem yf:Fz gA:=by
 intro xs hx
 have hn:=(aB hx).1
 unfold gA
 rw[uG (by omega)];simp only[Option.bind_some]
 rw[toL (f:=eA xs) xs (by omega) (fun ys i h hy=>by simp only[eA,bS h,if_true,aq h,aq (show i<ys.length by omega),Option.bind_some,fc,Ax xs[i] ((aB hx).2 _ (List.getElem_mem h)),aa (show i<9223372036854775807 by omega),Int.toNat_natCast]) (fun ys hy=>by simp only[eA,bm];rfl)]
 rfl
theorem JK:Fz nE:=by
 intro x hx
 unfold nE
 simp only[fc,Option.bind_some]
theorem G7:Fz mb:=by
 intro xs hx
 have hn:=(aB hx).1
 unfold mb
 rw[uG (by omega)];simp only[Option.bind_some]
 rw[toL (f:=iJ xs) xs (by omega) (fun ys i h hy=>by simp only[iJ,bS h,if_true,aq h,aq (show i<ys.length by omega),Option.bind_some,fc,JK xs[i] ((aB hx).2 _ (List.getElem_mem h)),aa (show i<9223372036854775807 by omega),Int.toNat_natCast]) (fun ys hy=>by simp only[iJ,bm];rfl)]
 rfl
theorem MO:Fz pR:=by
 intro x hx
 unfold pR
 simp only[fc,Option.bind_some,G7 x hx]
theorem yg:Fz gB:=by
 intro x hx
 unfold gB
 simp only[fc,Option.bind_some,MO x.2.1 hx.2.1]
theorem xh:Fz fP:=by
 intro xs hx
 have hn:=(aB hx).1
 unfold fP
 rw[uG (by omega)];simp only[Option.bind_some]
 rw[toL (f:=dK xs) xs (by omega) (fun ys i h hy=>by simp only[dK,bS h,if_true,aq h,aq (show i<ys.length by omega),Option.bind_some,fc,yg xs[i] ((aB hx).2 _ (List.getElem_mem h)),aa (show i<9223372036854775807 by omega),Int.toNat_natCast]) (fun ys hy=>by simp only[dK,bm];rfl)]
 rfl
theorem Cy:Fz dB:=by
 intro x hx
 unfold dB
 simp only[fc,Option.bind_some,yf x.1 hx.1,xh x.2 hx.2]
theorem MP:Fz pS:=by
 intro x hx
 unfold pS
 simp only[fc,Option.bind_some]
theorem JL:Fz nF:=by
 intro xs hx
 have hn:=(aB hx).1
 unfold nF
 rw[uG (by omega)];simp only[Option.bind_some]
 rw[toL (f:=jN xs) xs (by omega) (fun ys i h hy=>by simp only[jN,bS h,if_true,aq h,aq (show i<ys.length by omega),Option.bind_some,fc,MP xs[i] ((aB hx).2 _ (List.getElem_mem h)),aa (show i<9223372036854775807 by omega),Int.toNat_natCast]) (fun ys hy=>by simp only[jN,bm];rfl)]
 rfl
theorem JM:Fz gP:=by
 intro x hx
 unfold gP
 simp only[fc,Option.bind_some,FC x.1 hx.1,JL x.2 hx.2]
theorem MQ:CY pW:=by
 intro x y hx hy
 unfold pW
 try simp only[fc,Option.bind_some]
 repeat' split
 all_goals simp_all[Prod.ext_iff]
theorem JN:CY lE:=fun xs ys hx hy=>eqL (f:=jQ xs ys) xs ys (by have:=(aB hx).1;omega) (fun i h h'=>by
 simp only[jQ,bS h,if_true,aq h,aq h',Option.bind_some,fc,MQ xs[i] ys[i] ((aB hx).2 _ (List.getElem_mem h)) ((aB hy).2 _ (List.getElem_mem h')),aa (show i<9223372036854775807 by have:=(aB hx).1;omega)]
 first | exact fa (by simp) | exact pq (by simp) | exact fa (by simp[Prod.ext_iff])) (by simp only[jQ,bm];rfl)
theorem JO:CY qV:=fun xs ys hx hy=>eqL (f:=jR xs ys) xs ys (by have:=(aB hx).1;omega) (fun i h h'=>by
 simp only[jR,bS h,if_true,aq h,aq h',Option.bind_some,fc,aa (show i<9223372036854775807 by have:=(aB hx).1;omega)]
 first | exact fa (by simp) | exact pq (by simp) | exact fa (by simp[Prod.ext_iff])) (by simp only[jR,bm];rfl)
theorem FD:CY pX:=fun xs ys hx hy=>eqL (f:=kQ xs ys) xs ys (by have:=(aB hx).1;omega) (fun i h h'=>by
 simp only[kQ,bS h,if_true,aq h,aq h',Option.bind_some,fc,aa (show i<9223372036854775807 by have:=(aB hx).1;omega)]
 first | exact fa (by simp) | exact pq (by simp) | exact fa (by simp[Prod.ext_iff])) (by simp only[kQ,bm];rfl)
theorem JP:CY qW:=fun xs ys hx hy=>eqL (f:=jS xs ys) xs ys (by have:=(aB hx).1;omega) (fun i h h'=>by
 simp only[jS,bS h,if_true,aq h,aq h',Option.bind_some,fc,FD xs[i] ys[i] ((aB hx).2 _ (List.getElem_mem h)) ((aB hy).2 _ (List.getElem_mem h')),aa (show i<9223372036854775807 by have:=(aB hx).1;omega)]
 first | exact fa (by simp) | exact pq (by simp) | exact fa (by simp[Prod.ext_iff])) (by simp only[jS,bm];rfl)
theorem Ay:CY iS:=by
 intro x y hx hy
 unfold iS
 try simp only[fc,Option.bind_some,JO x.2.1 y.2.1 hx.2.1 hy.2.1,JP x.2.2 y.2.2 hx.2.2 hy.2.2]
 repeat' split
 all_goals simp_all[Prod.ext_iff]
theorem yh:CY kz:=fun xs ys hx hy=>eqL (f:=eG xs ys) xs ys (by have:=(aB hx).1;omega) (fun i h h'=>by
 simp only[eG,bS h,if_true,aq h,aq h',Option.bind_some,fc,Ay xs[i] ys[i] ((aB hx).2 _ (List.getElem_mem h)) ((aB hy).2 _ (List.getElem_mem h')),aa (show i<9223372036854775807 by have:=(aB hx).1;omega)]
 first | exact fa (by simp) | exact pq (by simp) | exact fa (by simp[Prod.ext_iff])) (by simp only[eG,bm];rfl)
theorem JQ:CY nJ:=by
 intro x y hx hy
 unfold nJ
 try simp only[fc,Option.bind_some]
 repeat' split
 all_goals simp_all[Prod.ext_iff]
theorem G8:CY oY:=fun xs ys hx hy=>eqL (f:=iT xs ys) xs ys (by have:=(aB hx).1;omega) (fun i h h'=>by
 simp only[iT,bS h,if_true,aq h,aq h',Option.bind_some,fc,JQ xs[i] ys[i] ((aB hx).2 _ (List.getElem_mem h)) ((aB hy).2 _ (List.getElem_mem h')),aa (show i<9223372036854775807 by have:=(aB hx).1;omega)]
 first | exact fa (by simp) | exact pq (by simp) | exact fa (by simp[Prod.ext_iff])) (by simp only[iT,bm];rfl)
theorem MR:CY pY:=by
 intro x y hx hy
 unfold pY
 try simp only[fc,Option.bind_some,G8 x y hx hy]
 repeat' split
 all_goals simp_all[Prod.ext_iff]
theorem yi:CY gD:=by
 intro x y hx hy
 unfold gD
 try simp only[fc,Option.bind_some,MR x.2.1 y.2.1 hx.2.1 hy.2.1]
 repeat' split
 all_goals simp_all[Prod.ext_iff]
theorem xi:CY jr:=fun xs ys hx hy=>eqL (f:=dL xs ys) xs ys (by have:=(aB hx).1;omega) (fun i h h'=>by
 simp only[dL,bS h,if_true,aq h,aq h',Option.bind_some,fc,yi xs[i] ys[i] ((aB hx).2 _ (List.getElem_mem h)) ((aB hy).2 _ (List.getElem_mem h')),aa (show i<9223372036854775807 by have:=(aB hx).1;omega)]
 first | exact fa (by simp) | exact pq (by simp) | exact fa (by simp[Prod.ext_iff])) (by simp only[dL,bm];rfl)
theorem Cz:CY jT:=by
 intro x y hx hy
 unfold jT
 try simp only[fc,Option.bind_some,yh x.1 y.1 hx.1 hy.1,xi x.2 y.2 hx.2 hy.2]
 repeat' split
 all_goals simp_all[Prod.ext_iff]
theorem MS:CY pZ:=by
 intro x y hx hy
 unfold pZ
 try simp only[fc,Option.bind_some]
 repeat' split
 all_goals simp_all[Prod.ext_iff]
theorem JR:CY qX:=fun xs ys hx hy=>eqL (f:=jU xs ys) xs ys (by have:=(aB hx).1;omega) (fun i h h'=>by
 simp only[jU,bS h,if_true,aq h,aq h',Option.bind_some,fc,MS xs[i] ys[i] ((aB hx).2 _ (List.getElem_mem h)) ((aB hy).2 _ (List.getElem_mem h')),aa (show i<9223372036854775807 by have:=(aB hx).1;omega)]
 first | exact fa (by simp) | exact pq (by simp) | exact fa (by simp[Prod.ext_iff])) (by simp only[jU,bm];rfl)
theorem JS:CY nK:=by
 intro x y hx hy
 unfold nK
 try simp only[fc,Option.bind_some,FD x.1 y.1 hx.1 hy.1,JR x.2 y.2 hx.2 hy.2]
 repeat' split
 all_goals simp_all[Prod.ext_iff]
end D
namespace D
open Go.RowKit
theorem cJ {R S:Type} {f:S→Option (Out R S)} (Inv:Nat→S→Prop) (Q:Out R S→Prop) (N:Nat)
  (h: ∀i s,i≤N→Inv i s→(i<N∧ ∃s',f s=some (.nxt s')∧Inv (i+1) s')∨ ∃o,f s=some o∧(∀s',o≠ .nxt s')∧Q o) {s:S} (h0:Inv 0 s) (hN:N<aD): ∃o,ai f aD s=some o∧Q o:=by
 have key: ∀(k i:Nat) (s:S),i≤N→N<i+k→Inv i s→ ∃o,ai f k s=some o∧Q o:=by
  intro k
  induction k with
  | zero=>intro i s h1 h2;omega
  | succ k ih =>
   intro i s h1 h2 hI
   rcases h i s h1 hI with ⟨hi,s',e,hI'⟩ | ⟨o,e,hn,hq⟩
   ·obtain ⟨o,e',hq⟩:=ih (i+1) s' (by omega) (by omega) hI'
    exact ⟨o,by rw[ai,e];exact e',hq⟩
   ·refine ⟨o,?_,hq⟩
    rw[ai,e]
    cases o with
    | nxt s'=>exact absurd rfl (hn s')
    | brk s'=>rfl
    | ret r=>rfl
 exact key aD 0 s (by omega) (by omega) h0
theorem nc {R S:Type} {f:S→Option (Out R S)} (Inv:Nat→S→Prop) (N:Nat) (h: ∀i s,i<N→Inv i s→ ∃s',f s=some (.nxt s')∧Inv (i+1) s') (he: ∀s,Inv N s→f s=some (.brk s)) {s:S} (h0:Inv 0 s) (hN:N<aD): ∃s',ai f aD s=some (.brk s')∧Inv N s':=by
 obtain ⟨o,e,s',rfl,h⟩:=cJ (f:=f) Inv (fun o=> ∃s',o= .brk s'∧Inv N s') N (fun i s hi hI=>by
  by_cases h1:i<N
  ·exact .inl ⟨h1,h i s h1 hI⟩
  ·obtain rfl:i=N:=by omega
   exact .inr ⟨_,he s hI,(fun s' e=>by cases e),s,rfl,hI⟩) h0 hN
 exact ⟨s',e,h⟩
theorem aA {R S:Type} {f:S→Option (Out R S)} (st:Nat→S) (N:Nat) (h: ∀i,i<N→f (st i)=some (.nxt (st (i+1)))) (he:f (st N)=some (.brk (st N))) (hN:N<aD):ai f aD (st 0)=some (.brk (st N)):=Cw st N h he hN
theorem kp {k:Nat} (h:k≤9223372036854775807):k<aD:=ox k h
theorem sC {i:Nat} (h:i≤9223372036854775807):IntKind.i64.wrap (i:Int)=(i:Int):=cH (by omega) (by omega)
theorem lP {i:Nat} (h:i≤9223372036854775807):IntKind.i64.wrap ((i:Int) - 1)=(i:Int) - 1:=cH (by omega) (by omega)
theorem aw {α:Type} {b:Nat} {xs ys:List α} (h:(xs.length+ys.length)*b≤140737488355328):cC b xs ys=some (xs++ys):=by unfold cC;rw[if_pos h]
theorem bE {R S T:Type} {x:Option (Out R S)} {r:R} {kr:R→Option T} {k:S→Option T} (h:x=some (.ret r)):ay x kr k=kr r:=by rw[h];rfl
theorem af {R S T:Type} {x:Option (Out R S)} {s:S} {kr:R→Option T} {k:S→Option T} (h:x=some (.brk s)):ay x kr k=k s:=by rw[h];rfl
def nth {α:Type} [Inhabited α] (xs:List α) (i:Int):α:=xs.getD i.toNat default
section
variable {α:Type} [Inhabited α] {xs ys:List α}
theorem aj {i:Int} (h0:0≤i) (h1:i<xs.length):az xs i=some (nth xs i):=by
 unfold az nth
 rw[if_pos h0]
 have:i.toNat<xs.length:=by omega
 simp[List.getD_eq_getElem?_getD,this]
theorem bw {i:Nat} (h:i<xs.length):nth xs (i:Int)=xs[i]:=by simp[nth,List.getD_eq_getElem?_getD,h]
theorem bg {i:Int} (h0:0≤i) (h1:i<xs.length):nth xs i∈xs:=by
 have:i.toNat<xs.length:=by omega
 have e:nth xs i=xs[i.toNat]:=by simp[nth,List.getD_eq_getElem?_getD,this]
 rw[e];exact List.getElem_mem this
theorem lQ {i:Int} (h0:0≤i) (h1:i<xs.length):nth (xs++ys) i=nth xs i:=by
 have:i.toNat<xs.length:=by omega
 simp[nth,List.getD_eq_getElem?_getD,List.getElem?_append_left this]
theorem Qi {β:Type} [Inhabited β] {f:α→β} {i:Int} (h0:0≤i) (h1:i<xs.length):nth (xs.map f) i=f (nth xs i):=by
 have:i.toNat<xs.length:=by omega
 simp[nth,List.getD_eq_getElem?_getD,this]
theorem Az {x:α} (h:x∈xs): ∃i:Nat,i<xs.length∧nth xs (i:Int)=x:=by
 obtain ⟨i,hi,rfl⟩:=List.getElem_of_mem h
 exact ⟨i,hi,bw hi⟩
theorem mu {i:Int} {x:α} (h0:0≤i) (h1:i<xs.length):nth (xs.set i.toNat x) i=x:=by
 have:i.toNat<xs.length:=by omega
 simp[nth,List.getD_eq_getElem?_getD,this]
theorem p9 {i j:Int} {x:α} (h0:0≤i) (hj:0≤j) (h:i≠j):nth (xs.set i.toNat x) j=nth xs j:=by
 have:i.toNat≠j.toNat:=by omega
 simp[nth,List.getD_eq_getElem?_getD,List.getElem?_set_ne this]
theorem Qj (h:xs.length=ys.length) (k: ∀i:Nat,i<xs.length→nth xs (i:Int)=nth ys (i:Int)):xs=ys:=by
 refine List.ext_getElem h fun i h1 h2=>?_
 have:=k i h1
 rwa [bw h1,bw h2] at this
end
section
variable {κ:Type} [DecidableEq κ]
def nbL (l:List κ):Option κ→List κ
 | none=>l
 | some x=>if x∈l then l else l++ [x]
def nbI (l:List κ):Option κ→Int
 | none=> -1
 | some x=>(l.idxOf x:Int)
def nbS (l:List κ) (os:List (Option κ)):List κ:=os.foldl nbL l
def nbR (l:List κ):List (Option κ)→List Int
 | [] =>[]
 | o::os=>nbI l o::nbR (nbL l o) os
theorem sD (l:List κ) (os:List (Option κ)) (o:Option κ):nbS l (os++ [o])=nbL (nbS l os) o:=by simp[nbS]
theorem qa: ∀(l:List κ) (os:List (Option κ)) (o:Option κ),nbR l (os++ [o])=nbR l os++ [nbI (nbS l os) o]
 | l,[],o=>rfl
 | l,p::os,o=>by
  show nbI l p::nbR (nbL l p) (os++ [o])=nbI l p::nbR (nbL l p) os++ [nbI (nbS (nbL l p) os) o]
  rw[qa (nbL l p) os o];rfl
theorem dj: ∀(l:List κ) (os:List (Option κ)),(nbR l os).length=os.length
 | l,[] =>rfl
 | l,o::os=>by show (nbR (nbL l o) os).length+1=_;rw[dj];rfl
theorem G9 (l:List κ) (o:Option κ):l <+:nbL l o:=by
 cases o with
 | none=>exact List.prefix_refl l
 | some x=>unfold nbL;simp only;split
       ·exact List.prefix_refl l
       ·exact List.prefix_append l [x]
theorem jx: ∀(l:List κ) (os:List (Option κ)),l <+:nbS l os
 | l,[] =>List.prefix_refl l
 | l,o::os=>(G9 l o).trans (jx (nbL l o) os)
theorem JT {l:List κ} {o:Option κ} (h:l.Nodup):(nbL l o).Nodup:=by
 cases o with
 | none=>exact h
 | some x=>unfold nbL;simp only;split
       ·exact h
       ·rename_i hx;exact List.nodup_append.2 ⟨h,by simp,by rintro a ha b hb rfl;simp at hb;exact hx (hb ▸ ha)⟩
theorem pv: ∀ {l:List κ} {os:List (Option κ)},l.Nodup→(nbS l os).Nodup
 | l,[],h=>h
 | l,o::os,h=>pv (l:=nbL l o) (os:=os) (JT h)
theorem JU {l:List κ} {o:Option κ} {x:κ} :x∈nbL l o↔x∈l∨o=some x:=by
 cases o with
 | none=>simp[nbL]
 | some y=>unfold nbL;simp only;split
       ·rename_i h;constructor
        ·exact .inl
        ·rintro (h' | h')
         ·exact h'
         ·simp at h';exact h' ▸ h
       ·simp;exact or_congr Iff.rfl eq_comm
theorem tL: ∀ {l:List κ} {os:List (Option κ)} {x:κ},x∈nbS l os↔x∈l∨some x∈os
 | l,[],x=>by simp[nbS]
 | l,o::os,x=>by
  show x∈nbS (nbL l o) os↔_
  rw[tL,JU,List.mem_cons,or_assoc]
  exact or_congr Iff.rfl (or_congr eq_comm Iff.rfl)
theorem kE {l:List κ} {x:κ} (h:x∈l):nbL l (some x)=l:=by simp[nbL,h]
theorem jy {l:List κ} {x:κ} (h:x∉l):nbL l (some x)=l++ [x]:=by simp[nbL,h]
theorem nf {l:List κ} {x:κ} (h:x∉l):l.idxOf x=l.length:=List.idxOf_eq_length h
def bfS (nx:κ→List (Option κ)) (first:κ):Nat→List κ
 | 0=>[first]
 | i+1=>match (bfS nx first i)[i]? with
  | some x=>nbS (bfS nx first i) (nx x)
  | none=>bfS nx first i
def bfR (nx:κ→List (Option κ)) (first:κ):Nat→List (List Int)
 | 0=>[]
 | i+1=>bfR nx first i++(match (bfS nx first i)[i]? with
  | some x=>[nbR (bfS nx first i) (nx x)]
  | none=>[])
variable {nx:κ→List (Option κ)} {first:κ}
theorem AA {i:Nat} (h:i<(bfS nx first i).length):bfS nx first (i+1)=nbS (bfS nx first i) (nx ((bfS nx first i)[i])):=by
 rw[bfS,List.getElem?_eq_getElem h]
theorem sE {i:Nat} (h:i<(bfS nx first i).length):bfR nx first (i+1)=bfR nx first i++ [nbR (bfS nx first i) (nx ((bfS nx first i)[i]))]:=by
 rw[bfR,List.getElem?_eq_getElem h]
theorem ba (i:Nat):bfS nx first i <+:bfS nx first (i+1):=by
 rw[bfS]
 split
 ·exact jx _ _
 ·exact List.prefix_refl _
theorem tM {i j:Nat} (h:i≤j):bfS nx first i <+:bfS nx first j:=by
 induction h with
 | refl=>exact List.prefix_refl _
 | step _ ih=>exact ih.trans (ba _)
theorem ng: ∀i,(bfS nx first i).Nodup
 | 0=>by simp[bfS]
 | i+1=>by
  rw[bfS]
  split
  ·exact pv (ng i)
  ·exact ng i
theorem jX {G:κ→Prop} (h0:G first) (h: ∀x,G x→ ∀y,some y∈nx x→G y): ∀i,∀x∈bfS nx first i,G x
 | 0=>by simp[bfS];exact h0
 | i+1=>by
  rw[bfS]
  split
  ·rename_i y hy
   intro x hx
   rcases tL.1 hx with hx | hx
   ·exact jX h0 h i x hx
   ·exact h y (jX h0 h i y (List.mem_of_getElem? hy)) x hx
  ·exact jX h0 h i
theorem CA (i:Nat):(bfS nx first i)[0]? =some first:=by
 obtain ⟨t,ht⟩:=tM (nx:=nx) (first:=first) (Nat.zero_le i)
 rw[←ht];rfl
theorem ij: ∀ {i:Nat},(∀j,j<i→j<(bfS nx first j).length)→(bfR nx first i).length=i
 | 0,_=>rfl
 | i+1,h=>by rw[sE (h i (by omega)),List.length_append,ij fun j hj=>h j (by omega)];rfl
def bfE (nx:κ→List (Option κ)) (first:κ) (N:Nat):Prop:=N=(bfS nx first N).length∧ ∀i,i<N→i<(bfS nx first i).length
theorem Om {B:Nat} (hB: ∀i,(bfS nx first i).length≤B): ∃N,N≤B∧bfE nx first N:=by
 have key: ∀m i,i+m=B→(∀j,j<i→j<(bfS nx first j).length)→ ∃N,N≤B∧bfE nx first N:=by
  intro m
  induction m with
  | zero =>
   intro i hi hj
   have h1:=hB i
   have h2:i≤(bfS nx first i).length:=by
    cases i with
    | zero=>omega
    | succ i =>
     have:=hj i (by omega)
     have hp:=(ba (nx:=nx) (first:=first) i).length_le
     omega
   exact ⟨i,by omega,by omega,hj⟩
  | succ m ih =>
   intro i hi hj
   by_cases h:i<(bfS nx first i).length
   ·exact ih (i+1) (by omega) fun j hj'=>by
     by_cases e:j=i
     ·subst e;exact h
     ·exact hj j (by omega)
   ·have h2:i≤(bfS nx first i).length:=by
     cases i with
     | zero=>omega
     | succ i =>
      have:=hj i (by omega)
      have hp:=(ba (nx:=nx) (first:=first) i).length_le
      omega
    exact ⟨i,by omega,by omega,hj⟩
 exact key B 0 (by omega) (by omega)
theorem MT {N M:Nat} (h:bfE nx first N) (k:bfE nx first M):N=M:=by
 rcases Nat.lt_trichotomy N M with e | e | e
 ·have:=k.2 N e;have:=h.1;omega
 ·exact e
 ·have:=h.2 M e;have:=k.1;omega
end
end D
namespace D
open Go.RowKit
section
variable {α:Type} [Inhabited α]
def smk (mk:α→Nat):List α→Nat
 | [] =>0
 | x::xs=>mk x+smk mk xs
def mkd (mk:α→Nat) (m:α→Nat→α):List α→Nat→List α
 | [],_=>[]
 | x::xs,k=>m x k::mkd mk m xs (k+mk x)
theorem AB (mk:α→Nat): ∀(xs:List α) (x:α),smk mk (xs++ [x])=smk mk xs+mk x
 | [],x=>by simp[smk]
 | y::xs,x=>by simp[smk,AB mk xs x,Nat.add_assoc]
theorem AC (mk:α→Nat) (m:α→Nat→α): ∀(xs:List α) (x:α) (k:Nat),mkd mk m (xs++ [x]) k=mkd mk m xs k++ [m x (k+smk mk xs)]
 | [],x,k=>by simp[mkd,smk]
 | y::xs,x,k=>by simp[mkd,smk,AC mk m xs x,Nat.add_assoc]
theorem jz (mk:α→Nat) (m:α→Nat→α): ∀(xs:List α) (k:Nat),(mkd mk m xs k).length=xs.length
 | [],_=>rfl
 | x::xs,k=>by simp[mkd,jz mk m xs]
theorem AD (mk:α→Nat) (m:α→Nat→α): ∀(xs:List α) (k i:Nat),(mkd mk m xs k).take i=mkd mk m (xs.take i) k
 | [],_,_=>by simp[mkd]
 | x::xs,k,0=>by simp[mkd]
 | x::xs,k,i+1=>by simp[mkd,AD mk m xs]
theorem MU {xs:List α} {k:Nat} (h:k<xs.length):xs.take (k+1)=xs.take k++ [nth xs (k:Int)]:=by
 rw[List.take_succ_eq_append_getElem h,bw h]
theorem R1 (mk:α→Nat) (m:α→Nat→α) (xs:List α) (k:Nat) {i:Nat} (h:i<xs.length):nth (mkd mk m xs k) (i:Int)=m (nth xs (i:Int)) (k+smk mk (xs.take i)):=by
 have h':i<(mkd mk m xs k).length:=by rw[jz];exact h
 have e:=MU h'
 rw[AD,AD,MU h,AC] at e
 have:=List.append_cancel_left e
 simpa using this.symm
theorem AE (mk:α→Nat) {xs:List α} {i:Nat} (h:i<xs.length):smk mk (xs.take (i+1))=smk mk (xs.take i)+mk (nth xs (i:Int)):=by rw[MU h,AB]
theorem JV (mk:α→Nat): ∀(xs:List α) (i:Nat),smk mk (xs.take i)≤smk mk xs
 | [],_=>by simp
 | x::xs,0=>by simp[smk]
 | x::xs,i+1=>by simp[smk];exact JV mk xs i
theorem iY (mk:α→Nat) {B:Nat} : ∀(xs:List α),(∀x∈xs,mk x≤B)→smk mk xs≤xs.length*B
 | [],_=>by simp[smk]
 | x::xs,h=>by
  have h1:=iY mk xs fun y hy=>h y (by simp[hy])
  have h2:=h x (by simp)
  simp only[smk,List.length_cons,Nat.add_mul,Nat.one_mul];omega
theorem Qk {xs ys:List α} {i:Nat} (hi:i<xs.length) (hl:ys.length=i) (x:α):(ys++xs.drop i).set i x=ys++ [x] ++xs.drop (i+1):=by
 rw[List.set_append_right _ _ (by omega),hl,Nat.sub_self,List.drop_eq_getElem_cons hi,List.set_cons_zero,List.append_assoc];rfl
theorem CB {R:Type} {f:List α×Int×Int→Option (Out R (List α×Int×Int))} (xs:List α) (mk:α→Nat) (m:α→Nat→α) (hN:xs.length≤9223372036854775807) {k:Nat} (hk:k+smk mk xs≤4611686018427387904)
  (hstep: ∀ys (i k:Nat),i<xs.length→ys.length=xs.length→nth ys (i:Int)=nth xs (i:Int)→k+mk (nth xs (i:Int))≤4611686018427387904→f (ys,(k:Int),(i:Int))=some (.nxt (ys.set i (m (nth xs (i:Int)) k),((k+mk (nth xs (i:Int)):Nat):Int),((i+1:Nat):Int))))
  (hend: ∀ys (k:Nat),ys.length=xs.length→f (ys,(k:Int),(xs.length:Int))=some (.brk (ys,(k:Int),(xs.length:Int)))) :
  ai f aD (xs,(k:Int),0)=some (.brk (mkd mk m xs k,((k+smk mk xs:Nat):Int),(xs.length:Int))):=by
 have hlen: ∀i,i≤xs.length→(mkd mk m (xs.take i) k++xs.drop i).length=xs.length:=fun i hi=>by
  rw[List.length_append,jz,List.length_take,List.length_drop];omega
 have:=aA (f:=f) (fun i=>(mkd mk m (xs.take i) k++xs.drop i,((k+smk mk (xs.take i):Nat):Int),(i:Int))) xs.length (fun i hi=>by
  have hl:(mkd mk m (xs.take i) k).length=i:=by rw[jz,List.length_take];omega
  have hle:=JV mk xs (i+1)
  rw[AE mk hi] at hle
  rw[hstep _ i (k+smk mk (xs.take i)) hi (hlen i (by omega)) ?_ (by omega),Qk hi hl,MU hi,AC,AB,Nat.add_assoc]
  have h':i<(mkd mk m (xs.take i) k++xs.drop i).length:=by rw[hlen i (by omega)];exact hi
  rw[bw h',bw hi,List.getElem_append_right (by omega)]
  simp[hl]) (by
  have:=hend (mkd mk m (xs.take xs.length) k++xs.drop xs.length) (k+smk mk (xs.take xs.length)) (hlen _ (Nat.le_refl _))
  exact this) (kp hN)
 simpa [mkd,smk] using this
theorem TC {f:Int×Int→Option (Out Int (Int×Int))} (xs:List α) (mk:α→Nat) (m:α→Nat→α) (hN:xs.length≤9223372036854775807) {k:Nat} (hk:k+smk mk xs≤4611686018427387904)
  (hstep: ∀(i k':Nat),i<xs.length→nth (mkd mk m xs k) (i:Int)=m (nth xs (i:Int)) k'→k'+mk (nth xs (i:Int))≤4611686018427387904→f ((k':Int),(i:Int))=some (.nxt (((k'+mk (nth xs (i:Int)):Nat):Int),((i+1:Nat):Int))))
  (hend: ∀(k':Nat),f ((k':Int),(xs.length:Int))=some (.brk ((k':Int),(xs.length:Int)))) :
  ai f aD ((k:Int),0)=some (.brk (((k+smk mk xs:Nat):Int),(xs.length:Int))):=by
 have:=aA (f:=f) (fun i=>(((k+smk mk (xs.take i):Nat):Int),(i:Int))) xs.length (fun i hi=>by
  have hle:=JV mk xs (i+1)
  rw[AE mk hi] at hle
  rw[hstep i (k+smk mk (xs.take i)) hi (R1 mk m xs k hi) (by omega),AE mk hi,Nat.add_assoc]) (hend _) (kp hN)
 simpa [smk] using this
end
end D
set_option synthInstance.maxSize 20000
set_option synthInstance.maxHeartbeats 2000000
namespace D
open Go.RowKit
theorem kl {α:Type} {xs:List α} {i:Nat} {x:α} (h:i<xs.length):az (xs.set i x) (i:Int)=some x:=by
 rw[aq (by rw[List.length_set];exact h)];simp
theorem UL {n:Nat} :decide ((n:Int)<0)=false:=by simp only[decide_eq_false_iff_not];omega
def je (x:Int):Nat:=1
def FE (x:Int) (k:Nat):Int:=((k:Nat):Int)
theorem JW (xs:List Int) (hx:Data.sm xs):smk je xs≤1048576*1:=by
 obtain ⟨h1,h2⟩:=aB hx
 have b:=iY je (B:=1) xs (fun x hx=>by
  simp[je])
 exact Nat.le_trans b (Nat.mul_le_mul_right _ h1)
theorem JX (xs:List Int) (hx:Data.sm xs) {k:Nat} (hk:k+smk je xs≤4611686018427387904):ke xs (k:Int)=some (((k+smk je xs:Nat):Int),mkd je FE xs k):=by
 obtain ⟨hN,hs⟩:=aB hx
 unfold ke
 rw[af (CB (f:=iU) xs je FE (by omega) hk (fun ys i k hi hl he hk=>by
  have hz0:=hs _ (bg (xs:=xs) (i:=(i:Int)) (by omega) (by omega))
  unfold iU
  have hi':i<ys.length:=by omega
  generalize hz:nth xs (i:Int)=z at *
  have hk':k+(1)≤4611686018427387904:=hk
  simp only
  rw[if_pos (by simp;omega),aj (by omega) (by omega),he]
  simp only[Option.bind_some,Int.toNat_natCast,kl hi',List.set_set,aa (show i<9223372036854775807 by omega),aa (show k<9223372036854775807 by omega)]
  have e:k+je z=k+1:=by unfold je;omega
  rw[e];rfl) (fun ys k hl=>by
  unfold iU
  simp only
  rw[if_neg (by simp;omega)]))]
def fI (x:Int×Int):Nat:=1+1
def tN (x:Int×Int) (k:Nat):Int×Int:=(((k:Nat):Int),((k+1:Nat):Int))
theorem MV (xs:List (Int×Int)) (hx:Data.sm xs):smk fI xs≤1048576*2:=by
 obtain ⟨h1,h2⟩:=aB hx
 have b:=iY fI (B:=2) xs (fun x hx=>by
  simp[fI])
 exact Nat.le_trans b (Nat.mul_le_mul_right _ h1)
theorem MW (xs:List (Int×Int)) (hx:Data.sm xs) {k:Nat} (hk:k+smk fI xs≤4611686018427387904):iV xs (k:Int)=some (((k+smk fI xs:Nat):Int),mkd fI tN xs k):=by
 obtain ⟨hN,hs⟩:=aB hx
 unfold iV
 rw[af (CB (f:=gH) xs fI tN (by omega) hk (fun ys i k hi hl he hk=>by
  have hz0:=hs _ (bg (xs:=xs) (i:=(i:Int)) (by omega) (by omega))
  unfold gH
  have hi':i<ys.length:=by omega
  generalize hz:nth xs (i:Int)=z at *
  have hk':k+(1+1)≤4611686018427387904:=hk
  simp only
  rw[if_pos (by simp;omega),aj (by omega) (by omega),he]
  simp only[Option.bind_some,Int.toNat_natCast,kl hi',List.set_set,aa (show i<9223372036854775807 by omega),aa (show k<9223372036854775807 by omega),aa (show k+1<9223372036854775807 by omega)]
  have e:k+fI z=k+1+1:=by unfold fI;omega
  rw[e];rfl) (fun ys k hl=>by
  unfold gH
  simp only
  rw[if_neg (by simp;omega)]))]
theorem MX (xs:List (Int×Int)) (hx:Data.sm xs) {k:Nat} (hk:k+smk fI xs≤4611686018427387904):fS (mkd fI tN xs k) (k:Int)=some ((k+smk fI xs:Nat):Int):=by
 obtain ⟨hN,hs⟩:=aB hx
 unfold fS
 rw[af (TC (f:=gI _) xs fI tN (by omega) hk (fun i k' hi he hk=>by
  have hz0:=hs _ (bg (xs:=xs) (i:=(i:Int)) (by omega) (by omega))
  unfold gI
  generalize hz:nth xs (i:Int)=z at *
  have hk':k'+(1+1)≤4611686018427387904:=hk
  simp only
  rw[if_pos (by simp[jz];omega),aj (by omega) (by rw[jz];omega),he]
  simp only[tN,Option.bind_some,bne_self_eq_false,Bool.false_eq_true,if_false,UL,aa (show i<9223372036854775807 by omega),aa (show k'<9223372036854775807 by omega),aa (show k'+1<9223372036854775807 by omega)]
  have e:k'+fI z=k'+1+1:=by unfold fI;omega
  rw[e]) (fun k'=>by
  unfold gI
  simp only
  rw[if_neg (by simp[jz])]))]
def gR (x:Bool):Nat:=1
def Ea (x:Bool) (k:Nat):Bool:=((Int.tmod ((k:Nat):Int) 3)==0)
theorem MY (xs:List Bool) (hx:Data.sm xs):smk gR xs≤1048576*1:=by
 obtain ⟨h1,h2⟩:=aB hx
 have b:=iY gR (B:=1) xs (fun x hx=>by
  simp[gR])
 exact Nat.le_trans b (Nat.mul_le_mul_right _ h1)
theorem MZ (xs:List Bool) (hx:Data.sm xs) {k:Nat} (hk:k+smk gR xs≤4611686018427387904):kR xs (k:Int)=some (((k+smk gR xs:Nat):Int),mkd gR Ea xs k):=by
 obtain ⟨hN,hs⟩:=aB hx
 unfold kR
 rw[af (CB (f:=gE) xs gR Ea (by omega) hk (fun ys i k hi hl he hk=>by
  have hz0:=hs _ (bg (xs:=xs) (i:=(i:Int)) (by omega) (by omega))
  unfold gE
  have hi':i<ys.length:=by omega
  generalize hz:nth xs (i:Int)=z at *
  have hk':k+(1)≤4611686018427387904:=hk
  simp only
  rw[if_pos (by simp;omega),aj (by omega) (by omega),he]
  simp only[Option.bind_some,Int.toNat_natCast,kl hi',List.set_set,aa (show i<9223372036854775807 by omega),aa (show k<9223372036854775807 by omega)]
  have e:k+gR z=k+1:=by unfold gR;omega
  rw[e];rfl) (fun ys k hl=>by
  unfold gE
  simp only
  rw[if_neg (by simp;omega)]))]
def jA (x:List Int):Nat:=smk je (x)
def Eb (x:List Int) (k:Nat):List Int:=mkd je FE x k
theorem M0 (xs:List (List Int)) (hx:Data.sm xs):smk jA xs≤1048576*1048576:=by
 obtain ⟨h1,h2⟩:=aB hx
 have b:=iY jA (B:=1048576) xs (fun x hx=>by
  have hs:=h2 x hx
  have q0:=JW (x) hs
  unfold jA;omega)
 exact Nat.le_trans b (Nat.mul_le_mul_right _ h1)
theorem M2 (xs:List (List Int)) (hx:Data.sm xs) {k:Nat} (hk:k+smk jA xs≤4611686018427387904):kS xs (k:Int)=some (((k+smk jA xs:Nat):Int),mkd jA Eb xs k):=by
 obtain ⟨hN,hs⟩:=aB hx
 unfold kS
 rw[af (CB (f:=gF) xs jA Eb (by omega) hk (fun ys i k hi hl he hk=>by
  have hz0:=hs _ (bg (xs:=xs) (i:=(i:Int)) (by omega) (by omega))
  unfold gF
  have hi':i<ys.length:=by omega
  generalize hz:nth xs (i:Int)=z at *
  have hk':k+(smk je (z))≤4611686018427387904:=hk
  have m0:=JX (z) hz0 (k:=k) (by omega)
  simp only
  rw[if_pos (by simp;omega),aj (by omega) (by omega),he]
  simp only[Option.bind_some,Int.toNat_natCast,kl hi',List.set_set,aa (show i<9223372036854775807 by omega),m0]
  have e:k+jA z=k+smk je (z):=by unfold jA;omega
  rw[e];rfl) (fun ys k hl=>by
  unfold gF
  simp only
  rw[if_neg (by simp;omega)]))]
def bD (x:Int×(List Bool)×(List (List Int))):Nat:=1+smk gR (x.2.1)+smk jA (x.2.2)
def pw (x:Int×(List Bool)×(List (List Int))) (k:Nat):Int×(List Bool)×(List (List Int)):=(((k:Nat):Int),mkd gR Ea (x.2.1) (k+1),mkd jA Eb (x.2.2) (k+1+smk gR (x.2.1)))
theorem AF (xs:List (Int×(List Bool)×(List (List Int)))) (hx:Data.sm xs):smk bD xs≤1048576*1099512676353:=by
 obtain ⟨h1,h2⟩:=aB hx
 have b:=iY bD (B:=1099512676353) xs (fun x hx=>by
  have hs:=h2 x hx
  have q0:=MY (x.2.1) hs.2.1
  have q1:=M0 (x.2.2) hs.2.2
  unfold bD;omega)
 exact Nat.le_trans b (Nat.mul_le_mul_right _ h1)
theorem AG (xs:List (Int×(List Bool)×(List (List Int)))) (hx:Data.sm xs) {k:Nat} (hk:k+smk bD xs≤4611686018427387904):eX xs (k:Int)=some (((k+smk bD xs:Nat):Int),mkd bD pw xs k):=by
 obtain ⟨hN,hs⟩:=aB hx
 unfold eX
 rw[af (CB (f:=dw) xs bD pw (by omega) hk (fun ys i k hi hl he hk=>by
  have hz0:=hs _ (bg (xs:=xs) (i:=(i:Int)) (by omega) (by omega))
  unfold dw
  have hi':i<ys.length:=by omega
  generalize hz:nth xs (i:Int)=z at *
  have hk':k+(1+smk gR (z.2.1)+smk jA (z.2.2))≤4611686018427387904:=hk
  have m0:=MZ (z.2.1) hz0.2.1 (k:=k+1) (by omega)
  have m1:=M2 (z.2.2) hz0.2.2 (k:=k+1+smk gR (z.2.1)) (by omega)
  simp only
  rw[if_pos (by simp;omega),aj (by omega) (by omega),he]
  simp only[Option.bind_some,Int.toNat_natCast,kl hi',List.set_set,aa (show i<9223372036854775807 by omega),aa (show k<9223372036854775807 by omega),m0,m1]
  have e:k+bD z=k+1+smk gR (z.2.1)+smk jA (z.2.2):=by unfold bD;omega
  rw[e];rfl) (fun ys k hl=>by
  unfold dw
  simp only
  rw[if_neg (by simp;omega)]))]
def eJ (x:Int×Int×Int×Int):Nat:=1+1+1+1
def AH (x:Int×Int×Int×Int) (k:Nat):Int×Int×Int×Int:=(((k:Nat):Int),((k+1:Nat):Int),((k+1+1:Nat):Int),((k+1+1+1:Nat):Int))
theorem JY (xs:List (Int×Int×Int×Int)) (hx:Data.sm xs):smk eJ xs≤1048576*4:=by
 obtain ⟨h1,h2⟩:=aB hx
 have b:=iY eJ (B:=4) xs (fun x hx=>by
  simp[eJ])
 exact Nat.le_trans b (Nat.mul_le_mul_right _ h1)
theorem JZ (xs:List (Int×Int×Int×Int)) (hx:Data.sm xs) {k:Nat} (hk:k+smk eJ xs≤4611686018427387904):jV xs (k:Int)=some (((k+smk eJ xs:Nat):Int),mkd eJ AH xs k):=by
 obtain ⟨hN,hs⟩:=aB hx
 unfold jV
 rw[af (CB (f:=fR) xs eJ AH (by omega) hk (fun ys i k hi hl he hk=>by
  have hz0:=hs _ (bg (xs:=xs) (i:=(i:Int)) (by omega) (by omega))
  unfold fR
  have hi':i<ys.length:=by omega
  generalize hz:nth xs (i:Int)=z at *
  have hk':k+(1+1+1+1)≤4611686018427387904:=hk
  simp only
  rw[if_pos (by simp;omega),aj (by omega) (by omega),he]
  simp only[Option.bind_some,Int.toNat_natCast,kl hi',List.set_set,aa (show i<9223372036854775807 by omega),aa (show k<9223372036854775807 by omega),aa (show k+1<9223372036854775807 by omega),aa (show k+1+1<9223372036854775807 by omega),aa (show k+1+1+1<9223372036854775807 by omega)]
  have e:k+eJ z=k+1+1+1+1:=by unfold eJ;omega
  rw[e];rfl) (fun ys k hl=>by
  unfold fR
  simp only
  rw[if_neg (by simp;omega)]))]
def bH (x:Int×((List (Int×Int×Int×Int)))×Int):Nat:=1+smk eJ (x.2.1)+1
def nT (x:Int×((List (Int×Int×Int×Int)))×Int) (k:Nat):Int×((List (Int×Int×Int×Int)))×Int:=(((k:Nat):Int),mkd eJ AH (x.2.1) (k+1),((k+1+smk eJ (x.2.1):Nat):Int))
theorem yj (xs:List (Int×((List (Int×Int×Int×Int)))×Int)) (hx:Data.sm xs):smk bH xs≤1048576*4194306:=by
 obtain ⟨h1,h2⟩:=aB hx
 have b:=iY bH (B:=4194306) xs (fun x hx=>by
  have hs:=h2 x hx
  have q0:=JY (x.2.1) hs.2.1
  unfold bH;omega)
 exact Nat.le_trans b (Nat.mul_le_mul_right _ h1)
theorem yk (xs:List (Int×((List (Int×Int×Int×Int)))×Int)) (hx:Data.sm xs) {k:Nat} (hk:k+smk bH xs≤4611686018427387904):eH xs (k:Int)=some (((k+smk bH xs:Nat):Int),mkd bH nT xs k):=by
 obtain ⟨hN,hs⟩:=aB hx
 unfold eH
 rw[af (CB (f:=c8) xs bH nT (by omega) hk (fun ys i k hi hl he hk=>by
  have hz0:=hs _ (bg (xs:=xs) (i:=(i:Int)) (by omega) (by omega))
  unfold c8
  have hi':i<ys.length:=by omega
  generalize hz:nth xs (i:Int)=z at *
  have hk':k+(1+smk eJ (z.2.1)+1)≤4611686018427387904:=hk
  have m0:=JZ (z.2.1) hz0.2.1 (k:=k+1) (by omega)
  simp only
  rw[if_pos (by simp;omega),aj (by omega) (by omega),he]
  simp only[Option.bind_some,Int.toNat_natCast,kl hi',List.set_set,aa (show i<9223372036854775807 by omega),aa (show k<9223372036854775807 by omega),aa (show k+1+smk eJ (z.2.1)<9223372036854775807 by omega),m0]
  have e:k+bH z=k+1+smk eJ (z.2.1)+1:=by unfold bH;omega
  rw[e];rfl) (fun ys k hl=>by
  unfold c8
  simp only
  rw[if_neg (by simp;omega)]))]
def kF (x:Int×Int×Int×Int):Nat:=1+1+1+1
def Ec (x:Int×Int×Int×Int) (k:Nat):Int×Int×Int×Int:=(((k:Nat):Int),((k+1:Nat):Int),((k+1+1:Nat):Int),((k+1+1+1:Nat):Int))
theorem M3 (xs:List (Int×Int×Int×Int)) (hx:Data.sm xs):smk kF xs≤1048576*4:=by
 obtain ⟨h1,h2⟩:=aB hx
 have b:=iY kF (B:=4) xs (fun x hx=>by
  simp[kF])
 exact Nat.le_trans b (Nat.mul_le_mul_right _ h1)
theorem M4 (xs:List (Int×Int×Int×Int)) (hx:Data.sm xs) {k:Nat} (hk:k+smk kF xs≤4611686018427387904):kT xs (k:Int)=some (((k+smk kF xs:Nat):Int),mkd kF Ec xs k):=by
 obtain ⟨hN,hs⟩:=aB hx
 unfold kT
 rw[af (CB (f:=gG) xs kF Ec (by omega) hk (fun ys i k hi hl he hk=>by
  have hz0:=hs _ (bg (xs:=xs) (i:=(i:Int)) (by omega) (by omega))
  unfold gG
  have hi':i<ys.length:=by omega
  generalize hz:nth xs (i:Int)=z at *
  have hk':k+(1+1+1+1)≤4611686018427387904:=hk
  simp only
  rw[if_pos (by simp;omega),aj (by omega) (by omega),he]
  simp only[Option.bind_some,Int.toNat_natCast,kl hi',List.set_set,aa (show i<9223372036854775807 by omega),aa (show k<9223372036854775807 by omega),aa (show k+1<9223372036854775807 by omega),aa (show k+1+1<9223372036854775807 by omega),aa (show k+1+1+1<9223372036854775807 by omega)]
  have e:k+kF z=k+1+1+1+1:=by unfold kF;omega
  rw[e];rfl) (fun ys k hl=>by
  unfold gG
  simp only
  rw[if_neg (by simp;omega)]))]
def fU (x:(List (Int×(List Bool)×(List (List Int))))×(List (Int×((List (Int×Int×Int×Int)))×Int))):Nat:=smk bD (x.1)+smk bH (x.2)
def Ha (x:(List (Int×(List Bool)×(List (List Int))))×(List (Int×((List (Int×Int×Int×Int)))×Int))) (k:Nat):(List (Int×(List Bool)×(List (List Int))))×(List (Int×((List (Int×Int×Int×Int)))×Int)):=(mkd bD pw (x.1) (k),mkd bH nT (x.2) (k+smk bD (x.1)))
theorem Ed (x:(List (Int×(List Bool)×(List (List Int))))×(List (Int×((List (Int×Int×Int×Int)))×Int))) (hx:Data.sm x):fU x≤1152927002168131584:=by
 have q0:=AF (x.1) hx.1
 have q1:=yj (x.2) hx.2
 unfold fU;omega
theorem Ee (x:(List (Int×(List Bool)×(List (List Int))))×(List (Int×((List (Int×Int×Int×Int)))×Int))) (hx:Data.sm x) {k:Nat} (hk:k+fU x≤4611686018427387904):eP x (k:Int)=some (((k+fU x:Nat):Int),Ha x k):=by
 unfold fU at hk
 have m0:=AG (x.1) hx.1 (k:=k) (by omega)
 have m1:=yk (x.2) hx.2 (k:=k+smk bD (x.1)) (by omega)
 unfold eP
 simp only[fc,Option.bind_some,m0,m1]
 have e:k+fU x=k+smk bD (x.1)+smk bH (x.2):=by unfold fU;omega
 rw[e];rfl
def px (x:(List Int)×(List (Int×Int×Int×Int))):Nat:=smk je (x.1)+smk kF (x.2)
def Ql (x:(List Int)×(List (Int×Int×Int×Int))) (k:Nat):(List Int)×(List (Int×Int×Int×Int)):=(mkd je FE (x.1) (k),mkd kF Ec (x.2) (k+smk je (x.1)))
theorem M5 (x:(List Int)×(List (Int×Int×Int×Int))) (hx:Data.sm x):px x≤5242880:=by
 have q0:=JW (x.1) hx.1
 have q1:=M3 (x.2) hx.2
 unfold px;omega
theorem M6 (x:(List Int)×(List (Int×Int×Int×Int))) (hx:Data.sm x) {k:Nat} (hk:k+px x≤4611686018427387904):kU x (k:Int)=some (((k+px x:Nat):Int),Ql x k):=by
 unfold px at hk
 have m0:=JX (x.1) hx.1 (k:=k) (by omega)
 have m1:=M4 (x.2) hx.2 (k:=k+smk je (x.1)) (by omega)
 unfold kU
 simp only[fc,Option.bind_some,m0,m1]
 have e:k+px x=k+smk je (x.1)+smk kF (x.2):=by unfold px;omega
 rw[e];rfl
end D
namespace D
open Go.RowKit
abbrev AutT:=Int×(List Bool)×(List (List Int))
structure VA (a:AutT) (n:Nat):Prop where
 len:a.2.1.length=n
 start:0≤a.1∧a.1<n
 nlen:a.2.2.length=n
 row: ∀r∈a.2.2,r.length=9
 ent: ∀r∈a.2.2,∀t∈r,-1≤t∧t<n
def mv (a:AutT) (s:Int) (k:Nat):Int:=nth (nth a.2.2 s) k
theorem Qm (x l h:Int):dm x l h=some (decide (l≤x∧x≤h)):=by
 unfold dm
 by_cases c:l≤x
 ·simp[c]
 ·have: ¬l≤x∧True:=⟨c,trivial⟩
  simp[c]
theorem Hx (x l h:Int):bI x l h=some (decide (l≤x∧x≤h)):=by
 unfold bI
 by_cases c:l≤x
 ·simp[c]
 ·simp[c]
theorem scan {α R:Type} [Inhabited α] {f:Int→Option (Out R Int)} (xs:List α) (p:α→Prop) [DecidablePred p] (r:R) (hN:xs.length≤9223372036854775807)
  (h: ∀i:Nat,i<xs.length→f (i:Int)=some (if p (nth xs i) then .nxt ((i+1:Nat):Int) else .ret r)) (he:f (xs.length:Int)=some (.brk (xs.length:Int))) :
  (ai f aD 0=some (.brk (xs.length:Int))∧ ∀x∈xs,p x)∨(ai f aD 0=some (.ret r)∧ ¬ ∀x∈xs,p x):=by
 obtain ⟨o,e,hq⟩:=cJ (f:=f) (fun i s=>s=(i:Int)∧ ∀j:Nat,j<i→p (nth xs j)) (fun o=>(o= .brk (xs.length:Int)∧ ∀x∈xs,p x)∨(o= .ret r∧ ¬ ∀x∈xs,p x)) xs.length (s:=0) (by
  rintro i s hi ⟨rfl,hp⟩
  by_cases hl:i<xs.length
  ·by_cases c:p (nth xs i)
   ·refine .inl ⟨hl,_,by rw[h i hl,if_pos c],rfl,fun j hj=>?_⟩
    by_cases e:j=i
    ·subst e;exact c
    ·exact hp j (by omega)
   ·refine .inr ⟨_,by rw[h i hl,if_neg c],(fun s' e=>by cases e),.inr ⟨rfl,fun hx=>c (hx _ (bg (by omega) (by omega)))⟩⟩
  ·obtain rfl:i=xs.length:=by omega
   refine .inr ⟨_,he,(fun s' e=>by cases e),.inl ⟨rfl,fun x hx=>?_⟩⟩
   obtain ⟨j,hj,rfl⟩:=Az hx
   exact hp j hj) ⟨rfl,by omega⟩ (kp hN)
 rcases hq with ⟨rfl,hq⟩ | ⟨rfl,hq⟩
 ·exact .inl ⟨e,hq⟩
 ·exact .inr ⟨e,hq⟩
section
variable {a:AutT} {n:Nat} (V:VA a n)
include V
theorem VA.pos:0<n:=by have:=V.start;omega
theorem VA.rowAt {s:Int} (h0:0≤s) (h1:s<n):(nth a.2.2 s).length=9:=V.row _ (bg h0 (by rw[V.nlen];exact h1))
theorem VA.mv {s:Int} {k:Nat} (h0:0≤s) (h1:s<n) (hk:k<9): -1≤mv a s k∧mv a s k<n:=
 V.ent _ (bg h0 (by rw[V.nlen];exact h1)) _ (bg (by omega) (by rw[V.rowAt h0 h1];omega))
theorem VA.get {s:Int} (h0:0≤s) (h1:s<n):az a.2.2 s=some (nth a.2.2 s):=aj h0 (by rw[V.nlen];exact h1)
theorem VA.get2 {s:Int} {k:Nat} (h0:0≤s) (h1:s<n) (hk:k<9):az (nth a.2.2 s) (k:Int)=some (D.mv a s k):=aj (by omega) (by rw[V.rowAt h0 h1];omega)
theorem VA.acc {s:Int} (h0:0≤s) (h1:s<n):az a.2.1 s=some (nth a.2.1 s):=aj h0 (by rw[V.len];exact h1)
theorem CC {s:Int} {k:Nat} (h0:0≤s) (h1:s<n) (hk:k<9):aW a s (k:Int)=some (mv a s k):=by
 unfold aW gZ
 rw[if_neg (by simp;omega),Hx];simp only[Option.bind_some]
 rw[if_pos (by simp;omega),V.get h0 h1];simp only[Option.bind_some]
 rw[V.get2 h0 h1 hk];rfl
end
end D
namespace D
open Go.RowKit
abbrev Tok:=Int×Int×Int×Int
def ar (t:Tok):Int:=
 if t.1=1∨t.1=2 then (if t.2.1=0∧t.2.2.1=0∧t.2.2.2=0 then 0 else -1)
 else if t.1=3 then (if (0≤t.2.1∧t.2.1≤8)∧t.2.2.1=0∧t.2.2.2=0 then 0 else -1)
 else if t.1=4∨t.1=5 then (if t.2.1=0∧t.2.2.1=0∧t.2.2.2=0 then 2 else -1)
 else if t.1=6 then (if t.2.1=0∧t.2.2.1=0∧t.2.2.2=0 then 1 else -1)
 else if t.1=7 then (if t.2.1=0∧(0≤t.2.2.1∧t.2.2.1≤t.2.2.2)∧(1≤t.2.2.2∧t.2.2.2≤3) then 1 else -1)
 else -1
theorem M7 (x:Int):l7 x=some (decide (0≤x∧x≤8)):=by unfold l7;rw[Qm];rfl
theorem M8 (x:Int):gZ x=some (decide (0≤x∧x≤8)):=by unfold gZ;rw[Hx];rfl
theorem Uy (t:Tok):lq t=some (ar t):=by
 obtain ⟨k,l,lo,hi⟩:=t
 unfold lq ar
 simp only[M7,Qm,Option.bind_some]
 by_cases h1:k=1
 ·subst h1;simp;grind
 by_cases h2:k=2
 ·subst h2;simp;grind
 by_cases h3:k=3
 ·subst h3;simp;grind
 by_cases h4:k=4
 ·subst h4;simp;grind
 by_cases h5:k=5
 ·subst h5;simp;grind
 by_cases h6:k=6
 ·subst h6;simp;grind
 by_cases h7:k=7
 ·subst h7;simp;grind
 simp[h1,h2,h3,h4,h5,h6,h7]
theorem R2 (t:Tok):nG t=some (decide (0≤ar t)):=by
 obtain ⟨k,l,lo,hi⟩:=t
 unfold nG ar
 simp only[M8,Hx,Option.bind_some]
 by_cases h1:k=1
 ·subst h1;simp;grind
 by_cases h2:k=2
 ·subst h2;simp;grind
 by_cases h3:k=3
 ·subst h3;simp only[]
  by_cases a:0≤l∧l≤8 <;> by_cases b:lo=0 <;> by_cases c:hi=0 <;> simp[a,b,c]
 by_cases h4:k=4
 ·subst h4;simp;grind
 by_cases h5:k=5
 ·subst h5;simp;grind
 by_cases h6:k=6
 ·subst h6;simp;grind
 by_cases h7:k=7
 ·subst h7;simp only[]
  by_cases a:l=0 <;> by_cases b:0≤lo∧lo≤hi <;> by_cases c:1≤hi∧hi≤3 <;> simp[a,b,c]
 simp[h1,h2,h3,h4,h5,h6,h7]
theorem sF (t:Tok): -1≤ar t∧ar t≤2:=by
 unfold ar
 grind
theorem lR {t:Tok} (h:0≤ar t):(ar t=2∧(t.1=4∨t.1=5))∨(ar t=1∧(t.1=6∨t.1=7))∨(ar t=0∧(t.1=1∨t.1=2∨t.1=3)):=by
 unfold ar at h⊢
 grind
theorem xj {t:Tok} (h:0≤ar t) (k:t.1=7):(0≤t.2.2.1∧t.2.2.1≤t.2.2.2)∧(1≤t.2.2.2∧t.2.2.2≤3):=by
 unfold ar at h
 grind
mutual
def flat:Tr Tok→List Tok
 | .nil=>[]
 | .node t ks=>gS ks++ [t]
def gS:List (Tr Tok)→List Tok
 | [] =>[]
 | k::ks=>flat k++gS ks
end
inductive WT:Tr Tok→Prop
 | node {t:Tok} {ks:List (Tr Tok)} :ar t=(ks.length:Int)→(∀k,k∈ks→WT k)→WT (.node t ks)
theorem nh: ∀(a b:List (Tr Tok)),gS (a++b)=gS a++gS b
 | [],b=>rfl
 | k::a,b=>by rw[List.cons_append,gS,gS,nh a b,List.append_assoc]
theorem km (x:Tr Tok):gS [x] =flat x:=by rw[gS,gS,List.append_nil]
theorem J4 (x y:Tr Tok):gS [x,y] =flat x++flat y:=by rw[gS,km]
theorem WT.cases {x:Tr Tok} (h:WT x):(∃t,x= .node t [] ∧ar t=0)∨(∃t a,x= .node t [a] ∧ar t=1∧WT a)∨ ∃t a b,x= .node t [a,b] ∧ar t=2∧WT a∧WT b:=by
 cases h with
 | @node t ks h1 h2 =>
  have:=(sF t).2
  match ks,h1,h2 with
  | [],h1,h2=>exact .inl ⟨t,rfl,h1⟩
  | [a],h1,h2=>exact .inr (.inl ⟨t,a,rfl,h1,h2 a (by simp)⟩)
  | [a,b],h1,h2=>exact .inr (.inr ⟨t,a,b,rfl,h1,h2 a (by simp),h2 b (by simp)⟩)
  | _::_::_::_,h1,h2=>simp at h1;omega
theorem WT.ind {p:Tr Tok→Prop} (h0: ∀t,ar t=0→p (.node t [])) (h1: ∀t a,ar t=1→WT a→p a→p (.node t [a])) (h2: ∀t a b,ar t=2→WT a→WT b→p a→p b→p (.node t [a,b])) {x:Tr Tok} (h:WT x):p x:=by
 induction h with
 | @node t ks e k ih =>
  have:=(sF t).2
  match ks,e,k,ih with
  | [],e,k,ih=>exact h0 t e
  | [a],e,k,ih=>exact h1 t a e (k a (by simp)) (ih a (by simp))
  | [a,b],e,k,ih=>exact h2 t a b e (k a (by simp)) (k b (by simp)) (ih a (by simp)) (ih b (by simp))
  | _::_::_::_,e,_,_=>simp at e;omega
theorem ym (t:Tok):flat (.node t [])= [t]:=by rw[flat,gS];rfl
theorem AI (t:Tok) (a:Tr Tok):flat (.node t [a])=flat a++ [t]:=by rw[flat,km]
theorem rq (t:Tok) (a b:Tr Tok):flat (.node t [a,b])=(flat a++flat b)++ [t]:=by rw[flat,J4]
theorem WT.pos {x:Tr Tok} (h:WT x):1≤(flat x).length:=by
 cases h with
 | node h1 h2=>rw[flat];simp
def stp (s:List (Tr Tok)) (t:Tok):Option (List (Tr Tok)):=if ar t<0∨(s.length:Int)<ar t then none else some (s.take (s.length - (ar t).toNat)++ [.node t (s.drop (s.length - (ar t).toNat))])
def run:List (Tr Tok)→List Tok→Option (List (Tr Tok))
 | s,[] =>some s
 | s,t::l=>(stp s t).bind fun s'=>run s' l
theorem AJ: ∀(a:List Tok) {b:List Tok} {s:List (Tr Tok)},run s (a++b)=(run s a).bind fun s'=>run s' b
 | [],b,s=>rfl
 | t::a,b,s=>by
  rw[List.cons_append,run,run]
  cases stp s t with
  | none=>rfl
  | some s'=>exact AJ a
theorem sG {a:List Tok} {t:Tok} {s:List (Tr Tok)} :run s (a++ [t])=(run s a).bind fun s'=>stp s' t:=by
 rw[AJ]
 congr 1
 funext s'
 rw[run]
 cases stp s' t <;> rfl
theorem On: ∀ {l:List Tok} {s s':List (Tr Tok)},run s l=some s'→(∀k,k∈s→WT k)→(∀k,k∈s'→WT k)∧gS s'=gS s++l
 | [],s,s',h,hs=>by
  obtain rfl:=Option.some.inj h
  exact ⟨hs,by simp⟩
 | t::l,s,s',h,hs=>by
  rw[run] at h
  unfold stp at h
  by_cases c:ar t<0∨(s.length:Int)<ar t
  ·rw[if_pos c] at h;cases h
  ·rw[if_neg c] at h
   have hlen:(s.drop (s.length - (ar t).toNat)).length=(ar t).toNat:=by rw[List.length_drop];omega
   obtain ⟨k1,k2⟩:=On (show run _ l=some s' from h) fun k hk=>by
    rcases List.mem_append.1 hk with hk | hk
    ·exact hs k (List.mem_of_mem_take hk)
    ·obtain rfl:=List.mem_singleton.1 hk
     exact .node (by rw[hlen];omega) fun k hk=>hs k (List.mem_of_mem_drop hk)
   refine ⟨k1,?_⟩
   rw[k2,nh,km,flat,←List.append_assoc,←nh,List.take_append_drop]
   simp
theorem M9 {x:Tr Tok} (h:WT x): ∀s,run s (flat x)=some (s++ [x]):=by
 refine WT.ind (p:=fun x=> ∀s,run s (flat x)=some (s++ [x])) ?_ ?_ ?_ h
 ·intro t e s
  rw[ym,run,stp,if_neg (by omega),e]
  simp[run]
 ·intro t a e _ ia s
  rw[AI,sG,ia]
  show stp (s++ [a]) t=_
  rw[stp,if_neg (by simp;omega),e]
  simp
 ·intro t a b e _ _ ia ib s
  rw[rq,sG,AJ,ia]
  show ((run (s++ [a]) (flat b)).bind fun s'=>stp s' t)=_
  rw[ib]
  show stp (s++ [a] ++ [b]) t=_
  rw[stp,if_neg (by simp;omega),e]
  have:(s++ [a] ++ [b]).length - (2:Int).toNat=s.length:=by simp
  rw[this]
  simp
def isX (e:List Tok):Bool:=match run [] e with
 | some [_] =>true
 | _=>false
theorem J5 {e:List Tok} (h:isX e=true): ∃x,run [] e=some [x] ∧WT x∧flat x=e:=by
 unfold isX at h
 split at h
 ·rename_i x hx
  obtain ⟨k1,k2⟩:=On hx (fun k hk=>by cases hk)
  refine ⟨x,hx,k1 x (by simp),?_⟩
  rw[km] at k2
  rw[k2];rfl
 ·cases h
theorem J6 {l:List Tok} : ∀ {s s':List (Tr Tok)},run s l=some s'→s'.length≤s.length+l.length:=by
 induction l with
 | nil=>intro s s' h;obtain rfl:=Option.some.inj h;simp
 | cons t l ih =>
  intro s s' h
  rw[run] at h
  obtain ⟨s1,h1,h2⟩:=Option.bind_eq_some_iff.1 h
  have h3:=ih h2
  unfold stp at h1
  split at h1
  ·cases h1
  ·obtain rfl:=Option.some.inj h1
   simp only[List.length_append,List.length_take,List.length_cons,List.length_nil] at h3⊢
   omega
theorem xk {e:List Tok} {i:Nat} (h:i<e.length):e.take (i+1)=e.take i++ [nth e (i:Int)]:=by
 rw[List.take_succ_eq_append_getElem h,bw h]
theorem vl {e:List Tok} {i:Nat} (h:i<e.length) {st:List (Tr Tok)} (h1:run [] (e.take i)=some st) (h2:stp st (nth e (i:Int))=none):run [] e=none:=by
 have:run [] (e.take (i+1))=none:=by rw[xk h,sG,h1];exact h2
 rw[←List.take_append_drop (i+1) e,AJ,this];rfl
theorem Na {e:List Tok} (he:e.length≤1048576):pQ e=some (isX e):=by
 obtain ⟨o,eo,hq⟩:=cJ (f:=nA e) (fun i s=> ∃st,s=((st.length:Int),(i:Int))∧run [] (e.take i)=some st) (fun o=>(o= .ret false∧run [] e=none)∨ ∃st,o= .brk ((st.length:Int),(e.length:Int))∧run [] e=some st) e.length (s:=(0,0)) (by
  rintro i s hi ⟨st,rfl,hst⟩
  have hl:=J6 hst
  simp only[List.length_nil,List.length_take] at hl
  unfold nA
  simp only[fc]
  by_cases c:i<e.length
  ·rw[if_pos (by simp;omega),aj (by omega) (by omega)];simp only[Option.bind_some]
   rw[Uy];simp only[Option.bind_some]
   have hr:=sF (nth e (i:Int))
   by_cases c1:ar (nth e (i:Int))<0
   ·refine .inr ⟨_,by rw[if_pos (by simpa using c1)],(fun s' e=>by cases e),.inl ⟨rfl,vl c hst ?_⟩⟩
    rw[stp,if_pos (.inl c1)]
   ·rw[if_neg (by simpa using c1)]
    by_cases c2:ar (nth e (i:Int))>(st.length:Int)
    ·refine .inr ⟨_,by rw[if_pos (by simpa using c2)],(fun s' e=>by cases e),.inl ⟨rfl,vl c hst ?_⟩⟩
     rw[stp,if_pos (.inr c2)]
    ·rw[if_neg (by simpa using c2)]
     refine .inl ⟨c,_,rfl,st.take (st.length - (ar (nth e (i:Int))).toNat)++ [.node (nth e (i:Int)) (st.drop (st.length - (ar (nth e (i:Int))).toNat))],?_,?_⟩
     ·rw[cH (n:=(st.length:Int) - ar (nth e (i:Int))) (by omega) (by omega),cH (by omega) (by omega),aa (by omega)]
      congr 1
      simp only[List.length_append,List.length_take,List.length_cons,List.length_nil]
      omega
     ·rw[xk c,sG,hst]
      show stp st _=_
      rw[stp,if_neg (by omega)]
  ·obtain rfl:i=e.length:=by omega
   rw[List.take_of_length_le (by omega)] at hst
   exact .inr ⟨_,by rw[if_neg (by simp)],(fun s' e=>by cases e),.inr ⟨st,rfl,hst⟩⟩) ⟨[],rfl,rfl⟩ (kp (by omega))
 unfold pQ
 rcases hq with ⟨rfl,h⟩ | ⟨st,rfl,h⟩
 ·rw[bE eo];unfold isX;rw[h]
 ·rw[af eo];unfold isX;rw[h]
  match st with
  | [] =>rfl
  | [_] =>rfl
  | _::_::_=>simp;omega
theorem TE {t:Tok} (h:0≤ar t):(Option.bind ((if t.1==4 then (some (t.1==4)) else (some (t.1==5)):Option Bool)) (fun s3=>if s3 then (some 2) else (Option.bind ((if t.1==6 then (some (t.1==6)) else (some (t.1==7)):Option Bool)) (fun s4=>if s4 then (some 1) else (some 0)))):Option Int)=some (ar t):=by
 rcases lR h with ⟨e,k | k⟩ | ⟨e,k | k⟩ | ⟨e,k | k | k⟩ <;> rw[e] <;> simp[k]
theorem Qn (t:Tok): ∃n:Int,(Option.bind ((if t.1==4 then (some (t.1==4)) else (some (t.1==5)):Option Bool)) (fun s3=>if s3 then (some 2) else (Option.bind ((if t.1==6 then (some (t.1==6)) else (some (t.1==7)):Option Bool)) (fun s4=>if s4 then (some 1) else (some 0)))):Option Int)=some n:=by
 by_cases h4:t.1=4
 ·exact ⟨2,by simp[h4]⟩
 by_cases h5:t.1=5
 ·exact ⟨2,by simp[h5]⟩
 by_cases h6:t.1=6
 ·exact ⟨1,by simp[h6]⟩
 by_cases h7:t.1=7
 ·exact ⟨1,by simp[h7]⟩
 exact ⟨0,by simp[h4,h5,h6,h7]⟩
def uV (e:List Tok):Tr Tok:=match run [] e with
 | some [x] =>x
 | _=>.nil
theorem AK {e:List Tok} (he:e.length≤1048576):k8 e=some (uV e):=by
 obtain ⟨o,eo,hq⟩:=cJ (f:=nH e) (fun i s=> ∃st,s=(st,(i:Int))∧run [] (e.take i)=some st) (fun o=>(o= .ret Tr.nil∧run [] e=none)∨ ∃st,o= .brk (st,(e.length:Int))∧run [] e=some st) e.length (s:=([],0)) (by
  rintro i s hi ⟨st,rfl,hst⟩
  have hl:=J6 hst
  simp only[List.length_nil,List.length_take] at hl
  unfold nH
  simp only[fc]
  by_cases c:i<e.length
  ·rw[if_pos (by simp;omega),aj (by omega) (by omega)];simp only[Option.bind_some]
   have hr:=sF (nth e (i:Int))
   by_cases c1:ar (nth e (i:Int))<0
   ·obtain ⟨n,hn⟩:=Qn (nth e (i:Int))
    rw[hn];simp only[Option.bind_some]
    rw[R2];simp only[Option.bind_some]
    refine .inr ⟨_,by rw[if_neg (by simp;omega)],(fun s' e=>by cases e),.inl ⟨rfl,vl c hst ?_⟩⟩
    rw[stp,if_pos (.inl c1)]
   ·rw[TE (by omega)];simp only[Option.bind_some]
    rw[R2];simp only[Option.bind_some]
    rw[if_pos (by simp;omega),cH (n:=(st.length:Int) - ar (nth e (i:Int))) (by omega) (by omega)]
    by_cases c2:ar (nth e (i:Int))>(st.length:Int)
    ·refine .inr ⟨_,by rw[if_pos (by simp;omega)],(fun s' e=>by cases e),.inl ⟨rfl,vl c hst ?_⟩⟩
     rw[stp,if_pos (.inr c2)]
    ·rw[if_neg (by simp;omega),show∀p:Prop,∀ [Decidable p],p→chk p=some () from fun p _ hp=>by unfold chk;rw[if_pos hp]]
     ·simp only[Option.bind_some]
      have e1:((st.length:Int) - ar (nth e (i:Int))).toNat=st.length - (ar (nth e (i:Int))).toNat:=by omega
      rw[e1,aw (by simp;omega)];simp only[Option.bind_some]
      rw[aw (by simp;omega)];simp only[Option.bind_some,List.nil_append,aa (show i<9223372036854775807 by omega)]
      refine .inl ⟨c,_,rfl,_,rfl,?_⟩
      rw[xk c,sG,hst]
      show stp st _=_
      rw[stp,if_neg (by omega)]
     ·omega
  ·obtain rfl:i=e.length:=by omega
   rw[List.take_of_length_le (by omega)] at hst
   exact .inr ⟨_,by rw[if_neg (by simp)],(fun s' e=>by cases e),.inr ⟨st,rfl,hst⟩⟩) ⟨[],rfl,rfl⟩ (kp (by omega))
 unfold k8
 rcases hq with ⟨rfl,h⟩ | ⟨st,rfl,h⟩
 ·rw[bE eo];unfold uV;rw[h]
 ·rw[af eo];unfold uV;rw[h]
  match st with
  | [] =>rfl
  | [x] =>rfl
  | _::_::_ =>
   simp only
   rw[if_pos (by simp;omega)]
theorem tO {x:Tr Tok} (h:WT x):uV (flat x)=x:=by unfold uV;rw[M9 h];rfl
theorem Nb {e:List Tok} (he:e.length≤1048576):pT e=some (isX e):=by
 unfold pT
 rw[AK he];simp only[Option.bind_some]
 congr 1
 by_cases h:isX e=true
 ·rw[h]
  obtain ⟨x,h1,h2,h3⟩:=J5 h
  have:uV e=x:=by unfold uV;rw[h1]
  rw[this]
  cases h2 with
  | node _ _=>rfl
 ·have:uV e= .nil:=by
   unfold uV
   unfold isX at h
   split
   ·rename_i x hx;rw[hx] at h;exact absurd rfl h
   ·rfl
  rw[this,Bool.eq_false_iff.2 h];rfl
theorem Ef {e:List Tok} (he:e.length≤1048576):iF e=some (decide (e.length≤24)&&isX e):=by
 unfold iF
 rw[Na he]
 by_cases c:e.length≤24
 ·rw[if_pos (by simp;omega)];simp[c]
 ·rw[if_neg (by simp;omega)];simp[c]
theorem Eg {e:List Tok} (he:e.length≤1048576):iL e=some (decide (e.length≤24)&&isX e):=by
 unfold iL
 rw[Nb he]
 by_cases c:e.length≤24
 ·rw[if_pos (by simp;omega)];simp[c]
 ·rw[if_neg (by simp;omega)];simp[c]
theorem chk_of {p:Prop} [Decidable p] (h:p):chk p=some ():=by unfold chk;rw[if_pos h]
theorem Qo {A:List Tok} {x:Tr Tok} (hx:WT x) (hl:(A++flat x).length≤1000000):fj (A++flat x)=some (A.length:Int):=by
 obtain ⟨s',e,ks,q1,q2,q3⟩: ∃s',ai (jF (A++flat x)) aD (1,((A++flat x).length:Int))=some (.brk s')∧ ∃ks:List (Tr Tok),ks= [] ∧s'.2=(A.length:Int)∧True:=by
  obtain ⟨o,eo,hq⟩:=cJ (f:=jF (A++flat x)) (fun i s=> ∃ks:List (Tr Tok),(∀k,k∈ks→WT k)∧s=((ks.length:Int),(((A++gS ks).length:Nat):Int))∧i+(gS ks).length=(flat x).length∧(A++flat x).take (A++gS ks).length=A++gS ks) (fun o=> ∃s',o= .brk s'∧s'.2=(A.length:Int)) (flat x).length (s:=(1,((A++flat x).length:Int))) (by
   rintro i s hi ⟨ks,hw,rfl,hlen,htk⟩
   unfold jF
   simp only[fc]
   rcases List.eq_nil_or_concat ks with rfl | ⟨ks',y,rfl⟩
   ·refine .inr ⟨_,by rw[if_neg (by simp)],(fun s' e=>by cases e),_,rfl,?_⟩
    simp[gS]
   ·have hy:=hw y (by simp)
    cases hy with
    | @node t cs h1 h2 =>
     have hfl:gS (ks'++ [.node t cs])=gS (ks'++cs)++ [t]:=by rw[nh,km,flat,nh,List.append_assoc]
     rw[List.concat_eq_append,hfl] at hlen htk⊢
     simp only[List.length_append,List.length_cons,List.length_nil] at hlen htk hl⊢
     rw[if_pos (by simp <;> omega)]
     have hpos:IntKind.i64.wrap (((A.length+((gS (ks'++cs)).length+1):Nat):Int) - 1)=((A.length+(gS (ks'++cs)).length:Nat):Int):=by
      rw[cH (by omega) (by omega)];omega
     have hget:nth (A++flat x) ((A.length+(gS (ks'++cs)).length:Nat):Int)=t:=by
      have hlt:A.length+(gS (ks'++cs)).length<(A++flat x).length:=by rw[List.length_append];omega
      have e1:=congrArg (fun l:List Tok=>l[A.length+(gS (ks'++cs)).length]?) htk
      rw[List.getElem?_take_of_lt (by omega),List.getElem?_eq_getElem hlt,←List.append_assoc,List.getElem?_append_right (by rw[List.length_append];omega),List.length_append] at e1
      rw[bw hlt]
      simpa using e1
     rw[hpos,aj (by omega) (by simp only[List.length_append];omega),hget];simp only[Option.bind_some]
     rw[Uy,h1];simp only[Option.bind_some]
     have hcl:(cs.length:Int)≤2:=by rw[←h1];exact (sF t).2
     have hkl:ks'.length≤(gS (ks'++cs)).length+1000000:=by
      have: ∀l:List (Tr Tok),(∀k,k∈l→WT k)→l.length≤(gS l).length:=by
       intro l
       induction l with
       | nil=>intro _;simp
       | cons k l ih =>
        intro h
        have h1:=(h k (by simp)).pos
        have h2:=ih fun k hk=>h k (by simp[hk])
        rw[gS];simp only[List.length_cons,List.length_append];omega
      have:=this ks' fun k hk=>hw k (by simp[hk])
      rw[nh,List.length_append];omega
     refine .inl ⟨by omega,_,rfl,ks'++cs,fun k hk=>?_,?_,by omega,?_⟩
     ·rcases List.mem_append.1 hk with hk | hk
      ·exact hw k (by simp[hk])
      ·exact h2 k hk
     ·rw[cH (n:=((ks'.length+1:Nat):Int) - 1) (by omega) (by omega),cH (by omega) (by omega)]
      congr 1
      (simp only[List.length_append]) <;> omega
     ·have e1:=congrArg (List.take (A++gS (ks'++cs)).length) htk
      rw[List.take_take,Nat.min_eq_left (by rw[List.length_append];omega),←List.append_assoc,List.take_left] at e1
      rw[List.length_append] at e1
      exact e1) ⟨[x],fun k hk=>by (obtain rfl:=List.mem_singleton.1 hk;exact hx),by rw[km];rfl,by rw[km];omega,by rw[km,List.take_length]⟩ (kp (by rw[List.length_append] at hl;omega))
  obtain ⟨s',rfl,h2⟩:=hq
  exact ⟨s',eo,[],rfl,h2,trivial⟩
 unfold fj
 rw[af e,q2]
end D
namespace D
open Go.RowKit
instance trInh {α:Type} :Inhabited (Tr α):=⟨.nil⟩
def szX:Tr Tok→Int
 | .nil=>0
 | .node t ks=>min (szL t 1 ks) 100000
where szL (t:Tok) (acc:Int):List (Tr Tok)→Int
 | [] =>acc
 | k::ks=>szL t (acc+(if t.1=7 then (szX k+3)*t.2.2.2 else szX k)) ks
theorem dy {x:Tr Tok} (h:WT x):1≤szX x∧szX x≤100000:=by
 refine WT.ind (p:=fun x=>1≤szX x∧szX x≤100000) ?_ ?_ ?_ h
 ·intro t _
  show 1≤min (1:Int) 100000∧min (1:Int) 100000≤100000
  omega
 ·intro t a e _ ih
  show 1≤min ((1:Int)+(if t.1=7 then (szX a+3)*t.2.2.2 else szX a)) 100000∧min ((1:Int)+(if t.1=7 then (szX a+3)*t.2.2.2 else szX a)) 100000≤100000
  split
  ·rename_i k
   have hr:=xj (show 0≤ar t by omega) k
   have:0≤(szX a+3)*t.2.2.2:=Int.mul_nonneg (by omega) (by omega)
   omega
  ·omega
 ·intro t a b e _ _ iha ihb
  have k:t.1≠7:=by
   rcases lR (show 0≤ar t by omega) with ⟨_,k⟩ | ⟨k,_⟩ | ⟨k,_⟩ <;> omega
  show 1≤min ((1:Int)+(if t.1=7 then (szX a+3)*t.2.2.2 else szX a)+(if t.1=7 then (szX b+3)*t.2.2.2 else szX b)) 100000∧min ((1:Int)+(if t.1=7 then (szX a+3)*t.2.2.2 else szX a)+(if t.1=7 then (szX b+3)*t.2.2.2 else szX b)) 100000≤100000
  rw[if_neg k,if_neg k]
  omega
theorem CD {a h:Int} (h1:1≤a∧a≤100000) (h2:1≤h∧h≤3):IntKind.i64.wrap ((IntKind.i64.wrap (a+3))*h)=(a+3)*h:=by
 rw[cH (n:=a+3) (by omega) (by omega)]
 have k1:0≤(a+3)*h:=Int.mul_nonneg (by omega) (by omega)
 have k2:(a+3)*h≤100003*3:=Int.mul_le_mul (by omega) (by omega) (by omega) (by omega)
 exact cH (by omega) (by omega)
theorem J7 {a h:Int} (h1:1≤a∧a≤100000) (h2:1≤h∧h≤3):0≤(a+3)*h∧(a+3)*h≤300009:=by
 have k1:0≤(a+3)*h:=Int.mul_nonneg (by omega) (by omega)
 have k2:(a+3)*h≤100003*3:=Int.mul_le_mul (by omega) (by omega) (by omega) (by omega)
 omega
theorem ni {t:Tok} {ks:List (Tr Tok)} :Tr.get (.node t ks)=some (t,ks):=rfl
theorem tP {f:Tr Tok→Option Int} {t:Tok} {ks:List (Tr Tok)} {i:Nat} {acc:Int} (hi:i<ks.length) (hf:f (nth ks (i:Int))=some (szX (nth ks (i:Int)))) (hw:WT (nth ks (i:Int))) (ht:0≤ar t) (ha:0≤acc∧acc≤1000000) (hik:i≤1000000) :
  aU f (.node t ks) (t,ks) (acc,(i:Int))=some (.nxt (acc+(if t.1=7 then (szX (nth ks (i:Int))+3)*t.2.2.2 else szX (nth ks (i:Int))),((i+1:Nat):Int))):=by
 unfold aU
 simp only[ni]
 have hr:=dy hw
 rw[if_pos (by simp <;> omega),aj (by omega) (by omega)];simp only[Option.bind_some]
 by_cases k:t.1=7
 ·have h7:=xj ht k
  have hm:=J7 hr h7.2
  rw[if_pos (by simpa using k),if_pos k,hf];simp only[Option.bind_some]
  rw[CD hr h7.2,cH (by omega) (by omega),aa (by omega)]
 ·rw[if_neg (by simpa using k),if_neg k,hf];simp only[Option.bind_some]
  rw[cH (by omega) (by omega),aa (by omega)]
theorem vm {α:Type} [Inhabited α] {a:α} {l:List α} :nth (a::l) ((0:Nat):Int)=a:=rfl
theorem J8 {α:Type} [Inhabited α] {a b:α} {l:List α} :nth (a::b::l) ((1:Nat):Int)=b:=rfl
theorem Qp {x:Tr Tok} (h:WT x): ∀n,(flat x).length≤n→bc n x=some (szX x):=by
 refine WT.ind (p:=fun x=> ∀n,(flat x).length≤n→bc n x=some (szX x)) ?_ ?_ ?_ h
 ·intro t e n hn
  rw[ym] at hn
  match n,hn with
  | n+1,_ =>
   rw[bc];simp only[ni,Option.bind_some]
   have hL:ai (aU (bc n) (.node t []) (t,[])) aD (1,0)=some (.brk (1,0)):=aA (f:=aU (bc n) (.node t []) (t,[])) (fun i=>(1,(i:Int))) 0 (fun i hi=>by omega) (by unfold aU;simp) (by unfold aD;omega)
   rw[af hL]
   all_goals rfl
 ·intro t a e wa ih n hn
  rw[AI,List.length_append] at hn
  match n,hn with
  | n+1,hn =>
   have hr:=dy wa
   rw[bc];simp only[ni,Option.bind_some]
   have hL:ai (aU (bc n) (.node t [a]) (t,[a])) aD (1,0)=some (.brk (szX.szL t 1 [a],1)):=aA (f:=aU (bc n) (.node t [a]) (t,[a])) (fun i=>(szX.szL t 1 ([a].take i),(i:Int))) 1 (fun i hi=>by
    obtain rfl:i=0:=by omega
    exact tP (acc:=1) (i:=0) (by simp) (ih n (by simp at hn;omega)) wa (by omega) (by omega) (by omega)) (by unfold aU;simp) (by unfold aD;omega)
   rw[af hL]
   all_goals rfl
 ·intro t a b e wa wb iha ihb n hn
  rw[rq,List.length_append,List.length_append] at hn
  match n,hn with
  | n+1,hn =>
   have hra:=dy wa
   have hrb:=dy wb
   have k:t.1≠7:=by
    rcases lR (show 0≤ar t by omega) with ⟨_,k⟩ | ⟨k,_⟩ | ⟨k,_⟩ <;> omega
   rw[bc];simp only[ni,Option.bind_some]
   have hL:ai (aU (bc n) (.node t [a,b]) (t,[a,b])) aD (1,0)=some (.brk (szX.szL t 1 [a,b],2)):=aA (f:=aU (bc n) (.node t [a,b]) (t,[a,b])) (fun i=>(szX.szL t 1 ([a,b].take i),(i:Int))) 2 (fun i hi=>by
    have:i=0∨i=1:=by omega
    rcases this with rfl | rfl
    ·exact tP (acc:=1) (i:=0) (by simp) (iha n (by simp at hn;omega)) wa (by omega) (by omega) (by omega)
    ·exact tP (acc:=1+(if t.1=7 then (szX a+3)*t.2.2.2 else szX a)) (i:=1) (by simp) (ihb n (by simp at hn;omega)) wb (by omega) (by rw[if_neg k];omega) (by omega)) (by unfold aU;simp) (by unfold aD;omega)
   rw[af hL]
   all_goals rfl
theorem kZ {A:List Tok} {t:Tok} (h:A.length≤1000000):az (A++ [t]) (IntKind.i64.wrap (((A++ [t]).length:Int) - 1))=some t∧IntKind.i64.wrap (((A++ [t]).length:Int) - 1)=(A.length:Int):=by
 have e:IntKind.i64.wrap (((A++ [t]).length:Int) - 1)=(A.length:Int):=by
  rw[cH (by simp only[List.length_append,List.length_cons,List.length_nil];omega) (by simp only[List.length_append,List.length_cons,List.length_nil];omega)]
  simp only[List.length_append,List.length_cons,List.length_nil];omega
 refine ⟨?_,e⟩
 rw[e,aj (by omega) (by simp only[List.length_append,List.length_cons,List.length_nil];omega),bw (by simp)]
 simp
theorem Uz {t:Tok} (h:ar t=2):(if t.1==4 then (some (t.1==4)) else (some (t.1==5)):Option Bool)=some true:=by
 rcases lR (show 0≤ar t by omega) with ⟨_,k | k⟩ | ⟨e,_⟩ | ⟨e,_⟩
 ·simp[k]
 ·simp[k]
 ·omega
 ·omega
theorem Nc {t:Tok} (h:ar t=1∨ar t=0):(if t.1==4 then (some (t.1==4)) else (some (t.1==5)):Option Bool)=some false:=by
 rcases lR (show 0≤ar t by omega) with ⟨e,k⟩ | ⟨e,k | k⟩ | ⟨e,k | k | k⟩
 ·omega
 all_goals simp[k]
theorem R3 {t:Tok} (h:ar t=0):(t.1==6)=false∧(t.1==7)=false:=by
 rcases lR (show 0≤ar t by omega) with ⟨e,k⟩ | ⟨e,k | k⟩ | ⟨e,k | k | k⟩
 ·omega
 ·omega
 ·omega
 all_goals simp[k]
theorem Nd {t:Tok} (h:ar t=1):((t.1==6)=true∧t.1=6)∨((t.1==6)=false∧(t.1==7)=true∧t.1=7):=by
 rcases lR (show 0≤ar t by omega) with ⟨e,k⟩ | ⟨e,k | k⟩ | ⟨e,k | k | k⟩
 ·omega
 ·left;simp[k]
 ·right;simp[k]
 all_goals omega
theorem xl {a b:Tr Tok} {t:Tok} (wb:WT b) (hl:((flat a++flat b)++ [t]).length≤1000000) :
  (((flat a++flat b)++ [t]).take ((((flat a++flat b).length:Nat):Int)).toNat)=flat a++flat b ∧
  fj (flat a++flat b)=some (((flat a).length:Nat):Int) ∧
  (((flat a++flat b)++ [t]).take ((((flat a).length:Nat):Int)).toNat)=flat a ∧
  (flat a++flat b).drop ((((flat a).length:Nat):Int)).toNat=flat b:=by
 refine ⟨?_,Qo wb (by simp only[List.length_append,List.length_cons,List.length_nil] at hl⊢;omega),?_,?_⟩
 ·rw[Int.toNat_natCast,List.take_left]
 ·rw[Int.toNat_natCast,List.append_assoc,List.take_left]
 ·rw[Int.toNat_natCast,List.drop_left]
theorem R4 {x:Tr Tok} (h:WT x): ∀n,(flat x).length≤n→(flat x).length≤1000000→cP n (flat x)=some (szX x):=by
 refine WT.ind (p:=fun x=> ∀n,(flat x).length≤n→(flat x).length≤1000000→cP n (flat x)=some (szX x)) ?_ ?_ ?_ h
 ·intro t e n hn hl
  rw[ym] at hn hl⊢
  match n,hn with
  | n+1,_ =>
   have hk:=R3 e
   rw[cP]
   have:=(kZ (A:=[]) (t:=t) (by simp)).1
   rw[List.nil_append] at this
   rw[this];simp only[Option.bind_some]
   rw[Nc (.inr e)];simp only[Option.bind_some,hk.1,hk.2,Bool.false_eq_true,if_false]
   rfl
 ·intro t a e wa ih n hn hl
  rw[AI] at hn hl⊢
  simp only[List.length_append,List.length_cons,List.length_nil] at hn hl
  match n,hn with
  | n+1,hn =>
   have hr:=dy wa
   rw[cP]
   obtain ⟨l1,l2⟩:=kZ (A:=flat a) (t:=t) (by omega)
   rw[l1];simp only[Option.bind_some]
   rw[Nc (.inl e)];simp only[Option.bind_some,Bool.false_eq_true,if_false]
   rw[l2,Int.toNat_natCast,List.take_left,chk_of (by simp only[List.length_append,List.length_cons,List.length_nil];omega)];simp only[Option.bind_some]
   rw[ih n (by omega) (by omega)];simp only[Option.bind_some]
   rcases Nd e with ⟨k1,k2⟩ | ⟨k1,k2,k3⟩
   ·rw[if_pos k1,cH (by omega) (by omega)]
    show some (min 100000 (szX a+1))=some (min ((1:Int)+(if t.1=7 then (szX a+3)*t.2.2.2 else szX a)) 100000)
    rw[if_neg (by omega)]
    congr 1;omega
   ·have h7:=xj (show 0≤ar t by omega) k3
    have hm:=J7 hr h7.2
    rw[if_neg (by simp[k1]),if_pos k2,CD hr h7.2,cH (by omega) (by omega)]
    show some (min 100000 ((szX a+3)*t.2.2.2+1))=some (min ((1:Int)+(if t.1=7 then (szX a+3)*t.2.2.2 else szX a)) 100000)
    rw[if_pos k3]
    congr 1;omega
 ·intro t a b e wa wb iha ihb n hn hl
  rw[rq] at hn hl⊢
  obtain ⟨p1,p2,p3,p4⟩:=xl (a:=a) (t:=t) wb hl
  simp only[List.length_append,List.length_cons,List.length_nil] at hn hl
  match n,hn with
  | n+1,hn =>
   have hra:=dy wa
   have hrb:=dy wb
   have k:t.1≠7:=by
    rcases lR (show 0≤ar t by omega) with ⟨_,k⟩ | ⟨k,_⟩ | ⟨k,_⟩ <;> omega
   rw[cP]
   obtain ⟨l1,l2⟩:=kZ (A:=flat a++flat b) (t:=t) (by rw[List.length_append];omega)
   rw[l1];simp only[Option.bind_some]
   rw[Uz e];simp only[Option.bind_some,if_true]
   rw[l2,p1,p2,chk_of (by simp only[List.length_append,List.length_cons,List.length_nil];omega)];simp only[Option.bind_some]
   rw[chk_of (by simp only[List.length_append,List.length_cons,List.length_nil];omega),p3,p4];simp only[Option.bind_some]
   rw[iha n (by omega) (by omega),chk_of (by simp only[List.length_append,List.length_cons,List.length_nil];omega)];simp only[Option.bind_some]
   rw[ihb n (by have:=wa.pos;omega) (by omega)];simp only[Option.bind_some]
   rw[cH (n:=szX a+szX b) (by omega) (by omega),cH (by omega) (by omega)]
   show some (min 100000 (szX a+szX b+1))=some (min ((1:Int)+(if t.1=7 then (szX a+3)*t.2.2.2 else szX a)+(if t.1=7 then (szX b+3)*t.2.2.2 else szX b)) 100000)
   rw[if_neg k,if_neg k]
   congr 1;omega
def Nf:Tr Tok:=.node (2,0,0,0) []
def Eh (x:Tr Tok):Nat→Int→Tr Tok
 | 0,_=>Nf
 | h+1,low=>if 0<low then .node (4,0,0,0) [x,Eh x h (max 0 (low - 1))] else .node (5,0,0,0) [.node (4,0,0,0) [x,Eh x h (max 0 (low - 1))],Nf]
mutual
def oD:Tr Tok→Tr Tok
 | .nil=>.nil
 | .node t ks=>if t.1=7 then Eh ((KU ks).headD .nil) t.2.2.2.toNat t.2.2.1 else .node t (KU ks)
def KU:List (Tr Tok)→List (Tr Tok)
 | [] =>[]
 | k::ks=>oD k::KU ks
end
theorem ar4:ar (4,0,0,0)=2:=by decide
theorem ar5:ar (5,0,0,0)=2:=by decide
theorem ar2:ar (2,0,0,0)=0:=by decide
theorem J9:WT Nf:=.node ar2 fun k hk=>by cases hk
theorem sH:flat Nf= [(2,0,0,0)]:=ym _
theorem WT.two {t:Tok} {a b:Tr Tok} (h:ar t=2) (ha:WT a) (hb:WT b):WT (.node t [a,b]):=.node h fun k hk=>by
 rcases List.mem_cons.1 hk with rfl | hk
 ·exact ha
 ·obtain rfl:=List.mem_singleton.1 hk
  exact hb
theorem WT.one {t:Tok} {a:Tr Tok} (h:ar t=1) (ha:WT a):WT (.node t [a]):=.node h fun k hk=>by
 obtain rfl:=List.mem_singleton.1 hk
 exact ha
theorem Ei {x:Tr Tok} (hx:WT x): ∀(h:Nat) (low:Int),WT (Eh x h low)
 | 0,_=>J9
 | h+1,low=>by
  rw[Eh]
  split
  ·exact .two ar4 hx (Ei hx h _)
  ·exact .two ar5 (.two ar4 hx (Ei hx h _)) J9
theorem AL (x:Tr Tok): ∀(h:Nat) (low:Int),(flat (Eh x h low)).length≤((flat x).length+3)*h+1
 | 0,_=>by rw[Eh,sH];simp
 | h+1,low=>by
  have ih:=AL x h (max 0 (low - 1))
  rw[Eh]
  split
  ·rw[rq];simp only[List.length_append,List.length_cons,List.length_nil]
   rw[Nat.mul_succ];omega
  ·rw[rq,rq,sH];simp only[List.length_append,List.length_cons,List.length_nil]
   rw[Nat.mul_succ];omega
theorem SY {t:Tok} {a:Tr Tok} :oD (.node t [a])=if t.1=7 then Eh (oD a) t.2.2.2.toNat t.2.2.1 else .node t [oD a]:=by rw[oD,KU,KU];rfl
theorem exp2 {t:Tok} {a b:Tr Tok} (h:t.1≠7):oD (.node t [a,b])= .node t [oD a,oD b]:=by rw[oD,if_neg h,KU,KU,KU]
theorem SZ {t:Tok} (h:t.1≠7):oD (.node t [])= .node t []:=by rw[oD,if_neg h,KU]
theorem no7 {t:Tok} (h:ar t=2∨ar t=0):t.1≠7:=by
 rcases lR (show 0≤ar t by omega) with ⟨_,k⟩ | ⟨k,_⟩ | ⟨_,k⟩ <;> omega
theorem Oo {x:Tr Tok} (h:WT x):WT (oD x):=by
 refine WT.ind (p:=fun x=>WT (oD x)) ?_ ?_ ?_ h
 ·intro t e
  rw[SZ (no7 (.inr e))]
  exact .node e fun k hk=>by cases hk
 ·intro t a e _ ih
  rw[SY]
  split
  ·exact Ei ih _ _
  ·exact .one e ih
 ·intro t a b e _ _ iha ihb
  rw[exp2 (no7 (.inl e))]
  exact .two e iha ihb
theorem AM {x:Tr Tok} (h:WT x):szX x<100000→((flat (oD x)).length:Int)≤szX x:=by
 refine WT.ind (p:=fun x=>szX x<100000→((flat (oD x)).length:Int)≤szX x) ?_ ?_ ?_ h
 ·intro t e _
  rw[SZ (no7 (.inr e)),ym]
  show (1:Int)≤min 1 100000
  omega
 ·intro t a e wa ih hs
  have hr:=dy wa
  have hs':min ((1:Int)+(if t.1=7 then (szX a+3)*t.2.2.2 else szX a)) 100000<100000:=hs
  show _≤min ((1:Int)+(if t.1=7 then (szX a+3)*t.2.2.2 else szX a)) 100000
  rw[SY]
  by_cases k:t.1=7
  ·rw[if_pos k] at hs'⊢
   rw[if_pos k]
   have h7:=xj (show 0≤ar t by omega) k
   have hge:szX a+3≤(szX a+3)*t.2.2.2:=by
    have:=Int.mul_le_mul_of_nonneg_left (c:=szX a+3) h7.2.1 (by omega)
    omega
   have h1:=ih (by omega)
   have h2:=AL (oD a) t.2.2.2.toNat t.2.2.1
   have h3:(((flat (oD a)).length+3)*t.2.2.2.toNat:Int)≤(szX a+3)*t.2.2.2:=by
    rw[Int.toNat_of_nonneg (by omega)]
    exact Int.mul_le_mul_of_nonneg_right (by omega) (by omega)
   have h4:((flat (Eh (oD a) t.2.2.2.toNat t.2.2.1)).length:Int)≤(((flat (oD a)).length+3)*t.2.2.2.toNat:Int)+1:=by exact_mod_cast h2
   omega
  ·rw[if_neg k] at hs'⊢
   rw[if_neg k,AI]
   have h1:=ih (by omega)
   simp only[List.length_append,List.length_cons,List.length_nil]
   omega
 ·intro t a b e wa wb iha ihb hs
  have hra:=dy wa
  have hrb:=dy wb
  have k:=no7 (.inl e)
  have hs':min ((1:Int)+(if t.1=7 then (szX a+3)*t.2.2.2 else szX a)+(if t.1=7 then (szX b+3)*t.2.2.2 else szX b)) 100000<100000:=hs
  show _≤min ((1:Int)+(if t.1=7 then (szX a+3)*t.2.2.2 else szX a)+(if t.1=7 then (szX b+3)*t.2.2.2 else szX b)) 100000
  rw[if_neg k,if_neg k] at hs'⊢
  rw[exp2 k,rq]
  have h1:=iha (by omega)
  have h2:=ihb (by omega)
  simp only[List.length_append,List.length_cons,List.length_nil]
  omega
theorem zg {x:Tr Tok} : ∀(h n:Nat) (low:Int),h<n→h≤3→0≤low→low≤3→hO n x low (h:Int)=some (Eh x h low)
 | 0,n+1,low,_,_,_,_=>by
  rw[hO,if_pos (by rfl)];rfl
 | h+1,n+1,low,h1,h2,h3,h4=>by
  rw[hO,if_neg (by simp;omega),cH (n:=low - 1) (by omega) (by omega),cH (n:=((h+1:Nat):Int) - 1) (by omega) (by omega)]
  rw[show ((h+1:Nat):Int) - 1=(h:Int) from by omega,zg h n (max 0 (low - 1)) (by omega) (by omega) (by omega) (by omega)];simp only[Option.bind_some]
  rw[Eh]
  by_cases c:0<low
  ·rw[if_pos (by simpa using c),if_pos c]
  ·rw[if_neg (by simpa using c),if_neg c];rfl
theorem FF {a b:List Tok} {t:Tok} (h:a.length+b.length≤1000000):jk a b t=some ((a++b)++ [t]):=by
 unfold jk jj
 rw[aw (by simp only[List.length_append,List.length_cons,List.length_nil];omega)];simp only[Option.bind_some,List.nil_append]
 rw[aw (by omega)];simp only[Option.bind_some]
 rw[aw (by simp only[List.length_append,List.length_cons,List.length_nil];omega)];rfl
theorem Ka {x:Tr Tok} : ∀(h n:Nat) (low:Int),h<n→h≤3→0≤low→low≤3→(flat x).length≤100000→gX n (flat x) low (h:Int)=some (flat (Eh x h low))
 | 0,n+1,low,_,_,_,_,_=>by
  rw[gX,if_pos (by rfl),Eh,sH];rfl
 | h+1,n+1,low,h1,h2,h3,h4,h5=>by
  rw[gX,if_neg (by simp;omega),cH (n:=low - 1) (by omega) (by omega),cH (n:=((h+1:Nat):Int) - 1) (by omega) (by omega)]
  rw[show ((h+1:Nat):Int) - 1=(h:Int) from by omega,Ka h n (max 0 (low - 1)) (by omega) (by omega) (by omega) (by omega) h5];simp only[Option.bind_some]
  have hl:=AL x h (max 0 (low - 1))
  have hl3:((flat x).length+3)*h≤100003*3:=Nat.mul_le_mul (by omega) (by omega)
  rw[FF (by omega),Eh];simp only[Option.bind_some]
  by_cases c:0<low
  ·rw[if_pos (by simpa using c),if_pos c,rq]
  ·rw[if_neg (by simpa using c),if_neg c,rq,rq,sH]
   show (mM 2).bind _=_
   unfold mM;simp only[Option.bind_some]
   rw[FF (by simp only[List.length_append,List.length_cons,List.length_nil];omega)];rfl
theorem sI:1000000000000≤eK:=by rw[Lc];unfold aD;omega
theorem Ng {x:Tr Tok} (h:WT x): ∀n,(flat x).length≤n→aR n x=some (oD x):=by
 have hF:=sI
 refine WT.ind (p:=fun x=> ∀n,(flat x).length≤n→aR n x=some (oD x)) ?_ ?_ ?_ h
 ·intro t e n hn
  rw[ym] at hn
  have k:=no7 (.inr e)
  match n,hn with
  | n+1,_ =>
   rw[aR];simp only[ni,Option.bind_some]
   rw[if_neg (by simpa using k),SZ k]
   have hL:ai (aN (aR n) (t,[])) aD (0,t.1,t.2.1,t.2.2.1,t.2.2.2,[])=some (.brk (0,t.1,t.2.1,t.2.2.1,t.2.2.2,[])):=aA (f:=aN (aR n) (t,[])) (fun i=>((i:Int),t.1,t.2.1,t.2.2.1,t.2.2.2,KU (([] :List (Tr Tok)).take i))) 0 (fun i hi=>by omega) (by unfold aN;simp) (by unfold aD;omega)
   rw[af hL]
   all_goals rfl
 ·intro t a e wa ih n hn
  rw[AI,List.length_append] at hn
  match n,hn with
  | n+1,hn =>
   have ia:=ih n (by simp at hn;omega)
   rw[aR,SY];simp only[ni,Option.bind_some]
   rcases Nd e with ⟨k1,k2⟩ | ⟨k1,k2,k3⟩
   ·rw[if_neg (by simp;omega),if_neg (by omega)]
    have hL:ai (aN (aR n) (t,[a])) aD (0,t.1,t.2.1,t.2.2.1,t.2.2.2,[])=some (.brk (1,t.1,t.2.1,t.2.2.1,t.2.2.2,[oD a])):=aA (f:=aN (aR n) (t,[a])) (fun i=>((i:Int),t.1,t.2.1,t.2.2.1,t.2.2.2,[oD a].take i)) 1 (fun i hi=>by
     obtain rfl:i=0:=by omega
     unfold aN
     simp only
     rw[if_pos (by simp),aj (by omega) (by simp),vm];simp only[Option.bind_some]
     rw[ia];simp only[Option.bind_some]
     rw[aw (by simp)];rfl) (by unfold aN;simp) (by unfold aD;omega)
    rw[af hL]
    all_goals rfl
   ·have h7:=xj (show 0≤ar t by omega) k3
    rw[if_pos k2,if_pos k3,show az [a] 0=some a from rfl];simp only[Option.bind_some]
    rw[ia];simp only[Option.bind_some]
    have:=zg (x:=oD a) t.2.2.2.toNat eK t.2.2.1 (by omega) (by omega) (by omega) (by omega)
    rw[Int.toNat_of_nonneg (by omega)] at this
    rw[this];rfl
 ·intro t a b e wa wb iha ihb n hn
  rw[rq,List.length_append,List.length_append] at hn
  have k:=no7 (.inl e)
  match n,hn with
  | n+1,hn =>
   have ia:=iha n (by simp at hn;omega)
   have ib:=ihb n (by simp at hn;omega)
   rw[aR,exp2 k];simp only[ni,Option.bind_some]
   rw[if_neg (by simpa using k)]
   have hL:ai (aN (aR n) (t,[a,b])) aD (0,t.1,t.2.1,t.2.2.1,t.2.2.2,[])=some (.brk (2,t.1,t.2.1,t.2.2.1,t.2.2.2,[oD a,oD b])):=aA (f:=aN (aR n) (t,[a,b])) (fun i=>((i:Int),t.1,t.2.1,t.2.2.1,t.2.2.2,[oD a,oD b].take i)) 2 (fun i hi=>by
    have:i=0∨i=1:=by omega
    rcases this with rfl | rfl
    ·unfold aN
     simp only
     rw[if_pos (by simp),aj (by omega) (by simp),vm];simp only[Option.bind_some]
     rw[ia];simp only[Option.bind_some]
     rw[aw (by simp)];rfl
    ·unfold aN
     simp only
     rw[if_pos (by simp),aj (by omega) (by simp),J8];simp only[Option.bind_some]
     rw[ib];simp only[Option.bind_some]
     rw[aw (by simp)];rfl) (by unfold aN;simp) (by unfold aD;omega)
   rw[af hL]
   all_goals rfl
theorem Kb {x:Tr Tok} (h:WT x): ∀n out,(flat x).length≤n→out.length+(flat x).length≤1000000→aP n x out=some (out++flat x):=by
 refine WT.ind (p:=fun x=> ∀n out,(flat x).length≤n→out.length+(flat x).length≤1000000→aP n x out=some (out++flat x)) ?_ ?_ ?_ h
 ·intro t e n out hn hl
  rw[ym] at hn hl⊢
  simp only[List.length_cons,List.length_nil] at hl
  match n,hn with
  | n+1,_ =>
   rw[aP];simp only[ni,Option.bind_some]
   have hL:ai (aL (aP n) (t,[])) aD (0,out)=some (.brk (0,out)):=aA (f:=aL (aP n) (t,[])) (fun i=>((i:Int),out)) 0 (fun i hi=>by omega) (by unfold aL;simp) (by unfold aD;omega)
   rw[af hL]
   simp only
   rw[aw (by simp;omega)];rfl
 ·intro t a e wa ih n out hn hl
  rw[AI] at hn hl⊢
  simp only[List.length_append,List.length_cons,List.length_nil] at hn hl
  match n,hn with
  | n+1,hn =>
   rw[aP];simp only[ni,Option.bind_some]
   have hL:ai (aL (aP n) (t,[a])) aD (0,out)=some (.brk (1,out++flat a)):=aA (f:=aL (aP n) (t,[a])) (fun i=>((i:Int),if i=0 then out else out++flat a)) 1 (fun i hi=>by
    obtain rfl:i=0:=by omega
    unfold aL
    simp only
    rw[if_pos (by simp),aj (by omega) (by simp),vm];simp only[Option.bind_some,if_true]
    rw[ih n _ (by omega) (by omega)];rfl) (by unfold aL;simp) (by unfold aD;omega)
   rw[af hL]
   simp only
   rw[aw (by simp;omega)];simp
 ·intro t a b e wa wb iha ihb n out hn hl
  rw[rq] at hn hl⊢
  simp only[List.length_append,List.length_cons,List.length_nil] at hn hl
  match n,hn with
  | n+1,hn =>
   rw[aP];simp only[ni,Option.bind_some]
   have hL:ai (aL (aP n) (t,[a,b])) aD (0,out)=some (.brk (2,(out++flat a)++flat b)):=aA (f:=aL (aP n) (t,[a,b])) (fun i=>((i:Int),if i=0 then out else if i=1 then out++flat a else (out++flat a)++flat b)) 2 (fun i hi=>by
    have:i=0∨i=1:=by omega
    rcases this with rfl | rfl
    ·unfold aL
     simp only
     rw[if_pos (by simp),aj (by omega) (by simp),vm];simp only[Option.bind_some,if_true]
     rw[iha n _ (by omega) (by omega)];rfl
    ·unfold aL
     simp only
     rw[if_pos (by simp),aj (by omega) (by simp),J8];simp only[Option.bind_some,if_true]
     rw[ihb n _ (by omega) (by simp;omega)];rfl) (by unfold aL;simp) (by unfold aD;omega)
   rw[af hL]
   simp only
   rw[aw (by simp;omega)];simp
theorem Nh {x:Tr Tok} (h:WT x): ∀n,(flat x).length≤n→(flat x).length≤1000000→szX x≤50000→bP n (flat x)=some (flat (oD x)):=by
 have hF:=sI
 refine WT.ind (p:=fun x=> ∀n,(flat x).length≤n→(flat x).length≤1000000→szX x≤50000→bP n (flat x)=some (flat (oD x))) ?_ ?_ ?_ h
 ·intro t e n hn hl hs
  rw[ym] at hn hl⊢
  match n,hn with
  | n+1,_ =>
   have hk:=R3 e
   rw[bP]
   have:=(kZ (A:=[]) (t:=t) (by simp)).1
   rw[List.nil_append] at this
   rw[this];simp only[Option.bind_some]
   rw[Nc (.inr e)];simp only[Option.bind_some,hk.1,hk.2,Bool.false_eq_true,if_false]
   rw[SZ (no7 (.inr e)),ym]
 ·intro t a e wa ih n hn hl hs
  have hs':min ((1:Int)+(if t.1=7 then (szX a+3)*t.2.2.2 else szX a)) 100000≤50000:=hs
  rw[AI] at hn hl⊢
  simp only[List.length_append,List.length_cons,List.length_nil] at hn hl
  match n,hn with
  | n+1,hn =>
   have hr:=dy wa
   have hsa:szX a≤50000:=by
    by_cases k:t.1=7
    ·rw[if_pos k] at hs'
     have h7:=xj (show 0≤ar t by omega) k
     have hge:szX a+3≤(szX a+3)*t.2.2.2:=by
      have:=Int.mul_le_mul_of_nonneg_left (c:=szX a+3) h7.2.1 (by omega)
      omega
     omega
    ·rw[if_neg k] at hs';omega
   have hla:=AM wa (by omega)
   rw[bP]
   obtain ⟨l1,l2⟩:=kZ (A:=flat a) (t:=t) (by omega)
   rw[l1];simp only[Option.bind_some]
   rw[Nc (.inl e)];simp only[Option.bind_some,Bool.false_eq_true,if_false]
   rw[l2,Int.toNat_natCast,List.take_left,chk_of (by simp only[List.length_append,List.length_cons,List.length_nil];omega)];simp only[Option.bind_some]
   rw[ih n (by omega) (by omega) hsa,SY];simp only[Option.bind_some]
   rcases Nd e with ⟨k1,k2⟩ | ⟨k1,k2,k3⟩
   ·rw[if_pos k1,if_neg (by omega),FF (by simp;omega),AI];simp
   ·have h7:=xj (show 0≤ar t by omega) k3
    rw[if_neg (by simp[k1]),if_pos k2,if_pos k3]
    have:=Ka (x:=oD a) t.2.2.2.toNat eK t.2.2.1 (by omega) (by omega) (by omega) (by omega) (by omega)
    rw[Int.toNat_of_nonneg (by omega)] at this
    rw[this];rfl
 ·intro t a b e wa wb iha ihb n hn hl hs
  have k:=no7 (.inl e)
  have hs':min ((1:Int)+(if t.1=7 then (szX a+3)*t.2.2.2 else szX a)+(if t.1=7 then (szX b+3)*t.2.2.2 else szX b)) 100000≤50000:=hs
  rw[if_neg k,if_neg k] at hs'
  rw[rq] at hn hl⊢
  obtain ⟨p1,p2,p3,p4⟩:=xl (a:=a) (t:=t) wb hl
  simp only[List.length_append,List.length_cons,List.length_nil] at hn hl
  match n,hn with
  | n+1,hn =>
   have hra:=dy wa
   have hrb:=dy wb
   have hla:=AM wa (by omega)
   have hlb:=AM wb (by omega)
   rw[bP]
   obtain ⟨l1,l2⟩:=kZ (A:=flat a++flat b) (t:=t) (by rw[List.length_append];omega)
   rw[l1];simp only[Option.bind_some]
   rw[Uz e];simp only[Option.bind_some,if_true]
   rw[l2,p1,p2,chk_of (by simp only[List.length_append,List.length_cons,List.length_nil];omega)];simp only[Option.bind_some]
   rw[chk_of (by simp only[List.length_append,List.length_cons,List.length_nil];omega),p3,p4];simp only[Option.bind_some]
   rw[iha n (by omega) (by omega) (by omega),chk_of (by simp only[List.length_append,List.length_cons,List.length_nil];omega)];simp only[Option.bind_some]
   rw[ihb n (by have:=wa.pos;omega) (by omega) (by omega)];simp only[Option.bind_some]
   rw[FF (by omega),exp2 k,rq];rfl
def Hb (e:List Tok):List Tok×Bool:=
 if decide (e.length≤24)&&isX e then (if 5000<szX (uV e) then ([],false) else (if 400<(flat (oD (uV e))).length then ([],false) else (flat (oD (uV e)),true))) else ([],false)
theorem Ej {e:List Tok} (he:e.length≤1048576):jG e=some (Hb e)∧jO e=some (Hb e):=by
 have hF:=sI
 unfold jG jO Hb
 rw[Ef he,Eg he];simp only[Option.bind_some]
 by_cases c:(decide (e.length≤24)&&isX e)=true
 ·rw[if_pos c,if_pos c,if_pos c,AK he];simp only[Option.bind_some]
  rw[Bool.and_eq_true] at c
  obtain ⟨x,h1,hw,rfl⟩:=J5 c.2
  have h24:(flat x).length≤24:=by simpa using c.1
  have hr:=dy hw
  rw[tO hw,R4 hw eK (by omega) (by omega),Qp hw eK (by omega)];simp only[Option.bind_some]
  by_cases c2:5000<szX x
  ·have c2':decide (szX x>5000)=true:=by simpa using c2
   simp only[gt_iff_lt,c2,decide_true,if_true,and_self]
  ·have c2':decide (szX x>5000)=false:=by simpa using c2
   simp only[gt_iff_lt,c2,decide_false,if_false,Bool.false_eq_true]
   have hl:=AM hw (by omega)
   rw[Nh hw eK (by omega) (by omega) (by omega),Ng hw eK (by omega)];simp only[Option.bind_some]
   unfold nI
   rw[Kb (Oo hw) eK [] (by omega) (by simp;omega)];simp only[Option.bind_some,List.nil_append]
   by_cases c3:400<(flat (oD x)).length
   ·have c3':decide (((flat (oD x)).length:Int)>400)=true:=decide_eq_true (by omega)
    simp only[c3',c3,decide_true,if_true,and_self]
   ·have c3':decide (((flat (oD x)).length:Int)>400)=false:=decide_eq_false (by omega)
    simp only[c3',c3,decide_false,if_false,Bool.false_eq_true,and_self]
 ·rw[if_neg c,if_neg c,if_neg c];exact ⟨rfl,rfl⟩
theorem Qq {e:List Tok} (h:(Hb e).2=true): ∃y,WT y∧(Hb e).1=flat y∧(flat y).length≤400:=by
 unfold Hb at h⊢
 split at h
 ·rename_i c
  rw[if_pos c]
  rw[Bool.and_eq_true] at c
  obtain ⟨x,h1,hw,rfl⟩:=J5 c.2
  rw[tO hw] at h⊢
  split at h
  ·cases h
  ·rename_i c2
   rw[if_neg c2]
   split at h
   ·cases h
   ·rename_i c3
    rw[if_neg c3]
    exact ⟨_,Oo hw,rfl,by omega⟩
 ·cases h
end D
namespace D
open Go.RowKit
def Kc (out:List Bool) (t:Int):Bool:=decide (t≥0)&&nth out t
def hit (out:List Bool) (row:List Int):Bool:=row.any (Kc out)
def uH (a:AutT) (out:List Bool) (s:Nat):List Bool:=if hit out (nth a.2.2 s) then out.set s true else out
def il (a:AutT) (out:List Bool):Nat→List Bool
 | 0=>out
 | s+1=>uH a (il a out s) s
def cnt (out:List Bool):Nat:=out.count true
theorem R5 (out:List Bool):cnt out≤out.length:=List.count_le_length
theorem FG {out:List Bool} {s:Nat} (h:s<out.length) (k:out[s] =true):out.set s true=out:=by
 refine List.ext_getElem (by simp) fun i h1 h2=>?_
 rw[List.getElem_set]
 split
 ·rename_i e;subst e;exact k.symm
 ·rfl
theorem Qr {out:List Bool} {s:Nat} (h:s<out.length) (k:out[s] =false):cnt (out.set s true)=cnt out+1:=by
 unfold cnt
 rw[List.count_set h];simp[k]
section
variable {a:AutT} {n:Nat}
theorem AN (a:AutT) (out:List Bool) (s:Nat):(uH a out s).length=out.length:=by unfold uH;split <;> simp
theorem iZ (a:AutT) (out:List Bool): ∀s,(il a out s).length=out.length
 | 0=>rfl
 | s+1=>by rw[il,AN,iZ a out s]
theorem uI {out:List Bool} {s:Nat} (h:s<out.length):(uH a out s=out∧ ¬(hit out (nth a.2.2 s)=true∧nth out s=false))∨(cnt (uH a out s)=cnt out+1∧hit out (nth a.2.2 s)=true∧nth out s=false):=by
 unfold uH
 rw[bw h]
 cases hh:hit out (nth a.2.2 s) with
 | false=>exact .inl ⟨by simp,by simp⟩
 | true =>
  cases hk:out[s] with
  | true=>exact .inl ⟨by simp[FG h hk],by simp⟩
  | false=>exact .inr ⟨by simp[Qr h hk],rfl,rfl⟩
theorem tQ {out:List Bool} : ∀s,s≤out.length→(il a out s=out∧cnt (il a out s)=cnt out)∨cnt out<cnt (il a out s)
 | 0,_=>.inl ⟨rfl,rfl⟩
 | s+1,hs=>by
  have hl:s<(il a out s).length:=by rw[iZ];omega
  have ih:=tQ (out:=out) s (by omega)
  rw[il]
  rcases uI (a:=a) hl with ⟨e,-⟩ | ⟨e,-,-⟩
  ·rw[e];exact ih
  ·rcases ih with ⟨-,h2⟩ | h
   ·exact .inr (by omega)
   ·exact .inr (by omega)
def it (a:AutT):Nat→List Bool
 | 0=>a.2.1
 | j+1=>il a (it a j) a.2.1.length
theorem nj (a:AutT): ∀j,(it a j).length=a.2.1.length
 | 0=>rfl
 | j+1=>by rw[it,iZ,nj a j]
theorem Oq (a:AutT) (j:Nat):cnt (it a j)≤a.2.1.length:=by rw[←nj a j];exact R5 _
theorem Ek (a:AutT) (j:Nat):(it a (j+1)=it a j)∨cnt (it a j)<cnt (it a (j+1)):=by
 rcases tQ (a:=a) (out:=it a j) a.2.1.length (by rw[nj];exact Nat.le_refl _) with h | h
 ·exact .inl h.1
 ·exact .inr h
theorem Ot {j k:Nat} (h:it a (j+1)=it a j) (hk:j≤k):it a k=it a j:=by
 induction hk with
 | refl=>rfl
 | step _ ih=>rw[it,ih];exact h
theorem Ke {j k:Nat} (h:it a (j+1)=it a j) (h':it a (k+1)=it a k):it a j=it a k:=by
 rcases Nat.le_total j k with e | e
 ·exact (Ot h e).symm
 ·exact Ot h' e
theorem Qs (a:AutT):it a (a.2.1.length+1)=it a a.2.1.length:=by
 have key: ∀j,it a (j+1)=it a j∨j+1≤cnt (it a (j+1)):=by
  intro j
  induction j with
  | zero=>rcases Ek a 0 with h | h
       ·exact .inl h
       ·exact .inr (by omega)
  | succ j ih =>
   rcases Ek a (j+1) with h | h
   ·exact .inl h
   ·rcases ih with h' | h'
    ·left;rw[it,h'];exact h'
    ·exact .inr (by omega)
 rcases key a.2.1.length with h | h
 ·exact h
 ·have:=Oq a (a.2.1.length+1);omega
def live (a:AutT):List Bool:=it a a.2.1.length
theorem rr (a:AutT):(live a).length=a.2.1.length:=nj a _
theorem FH {α:Type} [Inhabited α] {row:List α} {p:α→Bool} {k:Nat} (h:k<row.length):(row.take (k+1)).any p=((row.take k).any p || p (nth row (k:Int))):=by
 rw[List.take_succ_eq_append_getElem h,List.any_append,bw h];simp
section
variable (V:VA a n) (hn:n≤1000000)
include V hn
theorem Kf {out:List Bool} {s:Nat} (hs:s<n) (hl:out.length=n):ai (gh a (out,(s:Int))) aD (out,0)=some (.brk (uH a out s,9)):=by
 have hr:=V.rowAt (s:=s) (by omega) (by omega)
 have hls:s<out.length:=by omega
 have:=aA (f:=gh a (out,(s:Int))) (fun k=>(if ((nth a.2.2 (s:Int)).take k).any (Kc out) then out.set s true else out,(k:Int))) 9 (fun k hk=>by
  unfold gh
  simp only
  rw[if_pos (by simp;omega),V.get (by omega) (by omega)];simp only[Option.bind_some]
  rw[V.get2 (by omega) (by omega) hk];simp only[Option.bind_some]
  rw[FH (by omega),show nth (nth a.2.2 (s:Int)) (k:Int)=mv a s k from rfl]
  simp only[aa (show k<9223372036854775807 by omega)]
  by_cases c:mv a s k≥0
  ·have hset:(out.set s true).length=n:=by simp[hl]
   have hm:=(V.mv (s:=s) (k:=k) (by omega) (by omega) hk).2
   rw[if_pos (by simpa using c)]
   by_cases q:((nth a.2.2 (s:Int)).take k).any (Kc out)=true
   ·simp only[q,if_true,Bool.true_or]
    rw[aj c (by rw[hset];exact hm),aj (by omega) (by rw[hset];omega)];simp only[Option.bind_some,Int.toNat_natCast]
    split <;> simp
   ·simp only[q,Bool.false_eq_true,if_false,Bool.false_or,Kc]
    rw[aj c (by rw[hl];exact hm),aj (by omega) (by rw[hl];omega)];simp only[Option.bind_some,Int.toNat_natCast]
    cases hc:nth out (mv a s k) <;> simp[hc,c]
  ·rw[if_neg (by simpa using c)]
   simp[Kc,c]) (by unfold gh;simp) (by unfold aD;omega)
 have e9:(nth a.2.2 (s:Int)).take 9=nth a.2.2 (s:Int):=List.take_of_length_le (by omega)
 rw[e9] at this
 exact this
theorem CE {out:List Bool} (hl:out.length=n):ai (gi a) aD (out,0)=some (.brk (il a out n,(n:Int))):=by
 have hlen:=V.len
 refine aA (f:=gi a) (fun s=>(il a out s,(s:Int))) n (fun s hs=>?_) ?_ (kp (by omega))
 ·unfold gi
  simp only
  rw[if_pos (by simp;omega),af (Kf V hn hs (by rw[iZ];exact hl)),aa (by omega)]
  rfl
 ·unfold gi
  simp only
  rw[if_neg (by simp;omega)]
theorem Ou:jl a=some (live a):=by
 have hlen:=V.len
 unfold jl
 rw[aw (by simp;omega)];simp only[Option.bind_some,List.nil_append]
 have:=aA (f:=jI a) (fun j=>(it a j,(j:Int))) n (fun j hj=>by
  unfold jI
  simp only
  rw[if_pos (by simp;omega),af (CE V hn (by rw[nj];exact hlen)),aa (by omega),it,hlen]) (by
  unfold jI
  simp only
  rw[if_neg (by simp;omega)]) (kp (by omega))
 exact (af this).trans (by simp[live,hlen])
theorem Kg {out:List Bool} {g:Bool} {s:Nat} (hs:s<n) (hl:out.length=n):ai (cv (g,(s:Int),out) (nth a.2.2 (s:Int))) aD (g,0,out)=some (.brk (g || (hit out (nth a.2.2 (s:Int)) && !nth out (s:Int)),9,uH a out s)):=by
 have hr:=V.rowAt (s:=s) (by omega) (by omega)
 have hls:s<out.length:=by omega
 have:=aA (f:=cv (g,(s:Int),out) (nth a.2.2 (s:Int))) (fun k=>(g || (((nth a.2.2 (s:Int)).take k).any (Kc out) && !nth out (s:Int)),(k:Int),if ((nth a.2.2 (s:Int)).take k).any (Kc out) then out.set s true else out)) 9 (fun k hk=>by
  unfold cv
  simp only
  rw[if_pos (by simp[hr];omega),V.get2 (by omega) (by omega) hk];simp only[Option.bind_some]
  rw[FH (by omega),show nth (nth a.2.2 (s:Int)) (k:Int)=mv a s k from rfl]
  simp only[aa (show k<9223372036854775807 by omega)]
  by_cases c:mv a s k≥0
  ·have hset:(out.set s true).length=n:=by simp[hl]
   have hm:=(V.mv (s:=s) (k:=k) (by omega) (by omega) hk).2
   rw[if_pos (by simpa using c)]
   by_cases q:((nth a.2.2 (s:Int)).take k).any (Kc out)=true
   ·simp only[q,if_true,Bool.true_or]
    have hself:nth (out.set s true) (s:Int)=true:=by
     have:=mu (xs:=out) (i:=(s:Int)) (x:=true) (by omega) (by omega)
     simpa using this
    rw[aj c (by rw[hset];exact hm),aj (by omega) (by rw[hset];omega)];simp only[Option.bind_some,Int.toNat_natCast,hself,if_true]
    split <;> simp
   ·simp only[q,Bool.false_eq_true,if_false,Bool.false_or,Kc,Bool.false_and,Bool.or_false]
    rw[aj c (by rw[hl];exact hm),aj (by omega) (by rw[hl];omega)];simp only[Option.bind_some,Int.toNat_natCast]
    cases hc:nth out (mv a s k) with
    | false=>simp[c]
    | true =>
     cases hd:nth out (s:Int) with
     | false=>simp[c]
     | true =>
      rw[bw hls] at hd
      simp[c,FG hls hd]
  ·rw[if_neg (by simpa using c)]
   simp[Kc,c]) (by unfold cv;simp[hr]) (by unfold aD;omega)
 have e9:(nth a.2.2 (s:Int)).take 9=nth a.2.2 (s:Int):=List.take_of_length_le (by omega)
 rw[e9] at this
 have e0:(g || (((nth a.2.2 (s:Int)).take 0).any (Kc out) && !nth out (s:Int)))=g:=by simp
 rw[e0] at this
 exact this
theorem CF {out:List Bool} (hl:out.length=n): ∃g,ai (cw a) aD (false,0,out)=some (.brk (g,(n:Int),il a out n))∧(g=true↔cnt out<cnt (il a out n)):=by
 have hlen:=V.len
 have hnl:=V.nlen
 obtain ⟨s',e,⟨g,rfl,hg⟩⟩:=nc (f:=cw a) (fun s st=> ∃g,st=(g,(s:Int),il a out s)∧(g=true↔cnt out<cnt (il a out s))) n (by
  rintro s st hs ⟨g,rfl,hg⟩
  have hpl:(il a out s).length=n:=by rw[iZ];exact hl
  unfold cw
  simp only
  rw[if_pos (by simp;omega),V.get (by omega) (by omega)];simp only[Option.bind_some]
  rw[af (Kg V hn hs hpl),aa (by omega)]
  refine ⟨_,rfl,_,rfl,?_⟩
  rw[Bool.or_eq_true,Bool.and_eq_true,Bool.not_eq_true',hg,il]
  have hc:=tQ (a:=a) (out:=out) s (by omega)
  rcases uI (a:=a) (out:=il a out s) (s:=s) (by omega) with ⟨e,k⟩ | ⟨e,k⟩
  ·rw[e];exact ⟨fun h=>h.elim id fun h=>absurd h k,.inl⟩
  ·rw[e]
   exact ⟨fun _=>by rcases hc with ⟨-,h⟩ | h <;> omega,fun _=>.inr k⟩) (by
  rintro s ⟨g,rfl,hg⟩
  unfold cw
  simp only
  rw[if_neg (by simp;omega)]) ⟨false,rfl,by simp[il]⟩ (kp (by omega))
 exact ⟨g,e,hg⟩
theorem R6:dq a=some (live a):=by
 have hlen:=V.len
 unfold dq
 rw[aw (by simp;omega)];simp only[Option.bind_some,List.nil_append]
 obtain ⟨o,e,i,rfl,hi⟩:=cJ (f:=fB a) (fun i s=> ∃b,s=(b,it a i)∧(b=true→i≤cnt (it a i))∧(b=false→it a (i+1)=it a i)) (fun o=> ∃i,o= .brk (false,it a i)∧it a (i+1)=it a i) (n+1) (s:=(true,a.2.1)) (by
  rintro i s hi ⟨b,rfl,h1,h2⟩
  unfold fB
  simp only
  cases b with
  | false=>exact .inr ⟨_,by rw[if_neg (by simp)],(fun s' e=>by cases e),i,rfl,h2 rfl⟩
  | true =>
   have hc:=Oq a i
   have h1:=h1 rfl
   obtain ⟨g,e,hg⟩:=CF V hn (out:=it a i) (by rw[nj];exact hlen)
   have ee:il a (it a i) n=it a (i+1):=by rw[it,hlen]
   rw[ee] at e hg
   refine .inl ⟨by omega,(g,it a (i+1)),by rw[if_pos rfl,af e],g,rfl,fun h=>?_,fun h=>?_⟩
   ·have:=hg.1 h;omega
   ·have hs:it a (i+1)=it a i:=by
     rcases Ek a i with h' | h'
     ·exact h'
     ·rw[←hg,h] at h';cases h'
    rw[it,hs];exact hs) ⟨true,rfl,fun _=>Nat.zero_le _,fun h=>by cases h⟩ (kp (by omega))
 rw[af e]
 have:=Ke hi (Qs a)
 simp[live,this]
end
end
end D
namespace D
open Go.RowKit
def nothing:AutT:=(0,[false],[[-1,-1,-1,-1,-1,-1,-1,-1,-1]])
theorem Kh:mC=some nothing:=by kernel_rfl
theorem Ki:qU=some nothing:=by kernel_rfl
theorem Kj {n:Nat} (h:n≤1000000):iOk (n:Int)=true:=by
 have h1:IntKind.i64.min= -9223372036854775808:=by decide
 have h2:IntKind.i64.max=9223372036854775807:=by decide
 simp only[iOk,Lit.wf,h1,h2,Bool.and_eq_true,decide_eq_true_eq]
 omega
theorem take_one {α:Type} [Inhabited α] {xs:List α} {k:Nat} (h:k<xs.length):xs.take (k+1)=xs.take k++ [nth xs (k:Int)]:=by
 rw[List.take_succ_eq_append_getElem h,bw h]
theorem im {α:Type} [Inhabited α] {xs ys:List α} (h:xs <+:ys) {i:Int} (h0:0≤i) (h1:i<xs.length):nth ys i=nth xs i:=by
 obtain ⟨t,rfl⟩:=h
 exact lQ h0 h1
structure NumOk {κ:Type} [DecidableEq κ] (nx:κ→List (Option κ)) (first:κ) (G:κ→Prop) (B:Nat):Prop where
 g0:G first
 gn: ∀x,G x→ ∀y,some y∈nx x→G y
 len: ∀x,G x→(nx x).length=9
 bound: ∀l:List κ,l.Nodup→(∀x∈l,G x)→l.length≤B
section
variable {κ:Type} [DecidableEq κ] [Inhabited κ] {nx:κ→List (Option κ)} {first:κ} {G:κ→Prop} {B:Nat}
theorem NumOk.le (H:NumOk nx first G B) (i:Nat):(bfS nx first i).length≤B:=H.bound _ (ng i) (jX H.g0 H.gn i)
theorem NumOk.at (H:NumOk nx first G B) {i:Nat} (h:i<(bfS nx first i).length):G (nth (bfS nx first i) (i:Int)):=jX H.g0 H.gn i _ (bg (by omega) (by omega))
theorem ja {i:Nat} (h:i<(bfS nx first i).length):bfS nx first (i+1)=nbS (bfS nx first i) (nx (nth (bfS nx first i) (i:Int))):=by rw[AA h,bw h]
theorem sJ {i:Nat} (h:i<(bfS nx first i).length):bfR nx first (i+1)=bfR nx first i++ [nbR (bfS nx first i) (nx (nth (bfS nx first i) (i:Int)))]:=by rw[sE h,bw h]
theorem vn {β:Type} {acc:κ→β} {i:Nat} (h:i<(bfS nx first i).length):((bfS nx first (i+1)).take (i+1)).map acc=((bfS nx first i).take i).map acc++ [acc (nth (bfS nx first i) (i:Int))]:=by
 have hp:=ba (nx:=nx) (first:=first) i
 have hl:=hp.length_le
 have e:(bfS nx first (i+1)).take i=(bfS nx first i).take i:=by
  obtain ⟨t,ht⟩:=hp
  rw[←ht,List.take_append_of_le_length (by omega)]
 rw[take_one (by omega),List.map_append,e,im hp (by omega) (by omega)];rfl
def MapOf (M:List (κ×Int)) (l:List κ):Prop:=M.length=l.length∧ ∀x,M.lookup x=if x∈l then some (l.idxOf x:Int) else none
theorem MapOf.one (x:κ):MapOf [(x,0)] [x]:=by
 refine ⟨rfl,fun y=>?_⟩
 rw[List.lookup_cons]
 by_cases e:y=x
 ·subst e;simp
 ·simp only[show (y==x)=false from by simp[e]];simp[e]
theorem MapOf.put {M:List (κ×Int)} {l:List κ} (h:MapOf M l) {x:κ} (hx:x∉l):MapOf ((x,(l.length:Int))::M) (l++ [x]):=by
 refine ⟨by simp[h.1],fun y=>?_⟩
 rw[List.lookup_cons]
 by_cases e:y=x
 ·subst e
  simp[List.idxOf_append,hx]
 ·simp only[show (y==x)=false from by simp[e],h.2 y,List.mem_append,List.mem_singleton,e,or_false]
  by_cases k:y∈l
  ·simp[k,List.idxOf_append]
  ·simp[k]
end
section
variable {nx:Int→List (Option Int)} {first:Int} {G:Int→Prop} {B:Nat}
theorem CG {p3:Int→Int→Option (Int×Bool)} {l:List Int} {M:List (Int×Int)} {os:List (Option Int)} {acs:List Bool} {rws:List (List Int)} {i:Nat}
  (hi:i<l.length) (hos:os.length=9) (hM:MapOf M l) (hok: ∀y,some y∈os→iOk y=true) (hB: ∀k,(nbS l (os.take k)).length≤1000000)
  (hp: ∀(k:Nat) (hk:k<9),∃j,p3 (nth l (i:Int)) (k:Int)=some (match nth os (k:Int) with | some y=>(y,true) | none=>(j,false))) :
  ∃M',ai (cQ p3 (l,M,(i:Int),0,acs,rws)) aD (l,M,[],0)=some (.brk (nbS l os,M',nbR l os,9))∧MapOf M' (nbS l os):=by
 obtain ⟨s',e,M',rfl,hM'⟩:=nc (f:=cQ p3 (l,M,(i:Int),0,acs,rws)) (fun k s=> ∃M',s=(nbS l (os.take k),M',nbR l (os.take k),(k:Int))∧MapOf M' (nbS l (os.take k))) 9 (by
  rintro k s hk ⟨M1,rfl,hM1⟩
  have hpre:=jx l (os.take k)
  have hlen:=hpre.length_le
  have hBk:=hB k
  obtain ⟨j,hj⟩:=hp k hk
  have hrl:(nbR l (os.take k)).length≤9:=by rw[dj,List.length_take];omega
  unfold cQ
  simp only
  rw[if_pos (by simp;omega),aj (by omega) (by omega)];simp only[Option.bind_some]
  rw[im hpre (by omega) (by omega),hj,take_one (by omega),sD,qa]
  simp only[Option.bind_some,aa (show k<9223372036854775807 by omega)]
  cases ho:nth os (k:Int) with
  | none =>
   simp only[Bool.false_eq_true,if_false]
   rw[aw (by simp;omega)]
   exact ⟨_,rfl,M1,rfl,hM1⟩
  | some y =>
   have hy:iOk y=true:=hok y (ho ▸ bg (by omega) (by omega))
   simp only[if_true]
   rw[show chk (iOk y=true)=some () from by unfold chk;rw[if_pos hy]];simp only[Option.bind_some]
   rw[show lkM M1 y=_ from hM1.2 y]
   by_cases c:y∈nbS l (os.take k)
   ·simp only[c,if_true,Option.isSome_some,Option.getD_some,Option.bind_some]
    rw[aw (by simp;omega)]
    exact ⟨_,rfl,M1,by rw[kE c];rfl,by rw[kE c];exact hM1⟩
   ·have hput:HQ M1 iOk iOk y ((nbS l (os.take k)).length:Int)=some ((y,((nbS l (os.take k)).length:Int))::M1):=by
     unfold HQ
     rw[if_pos ⟨by have:=hM1.1;omega,hy,Kj hBk⟩]
    simp only[c,if_false,Option.isSome_none,Bool.false_eq_true,hput,Option.bind_some]
    rw[aw (by simp;omega)];simp only[Option.bind_some]
    rw[aw (by simp;omega)]
    refine ⟨_,rfl,(y,((nbS l (os.take k)).length:Int))::M1,?_,?_⟩
    ·rw[jy c];simp only[nbI,nf c]
    ·rw[jy c];exact hM1.put c) (by
  rintro s ⟨M1,rfl,hM1⟩
  unfold cQ
  simp) (s:=(l,M,[],0)) ⟨M,rfl,hM⟩ (by unfold aD;omega)
 rw[List.take_of_length_le (by omega)] at e hM'
 exact ⟨M',e,hM'⟩
theorem R7 {most:Int} {p2:Int→Option Bool} {p3:Int→Int→Option (Int×Bool)} {acc:Int→Bool} (H:NumOk nx first G B) (hB:B≤1000000) (hmost:(B:Int)≤most) (hok: ∀x,G x→iOk x=true)
  (h2: ∀x,G x→p2 x=some (acc x)) (h3: ∀x (k:Nat),G x→k<9→ ∃j,p3 x (k:Int)=some (match nth (nx x) (k:Int) with | some y=>(y,true) | none=>(j,false))) :
  ∃N,bfE nx first N∧df first most p2 p3=some ((0,(bfS nx first N).map acc,bfR nx first N),true):=by
 obtain ⟨N,hNB,hN⟩:=Om (nx:=nx) (first:=first) (H.le)
 refine ⟨N,hN,?_⟩
 unfold df
 rw[show HQ ([] :List (Int×Int)) iOk iOk first 0=some [(first,0)] from by unfold HQ;rw[if_pos ⟨by simp,hok _ H.g0,by decide⟩]];simp only[Option.bind_some]
 obtain ⟨s',e,M',rfl,hM'⟩:=nc (f:=bq most p2 p3) (fun i s=> ∃M,s=(bfS nx first i,M,(i:Int),0,((bfS nx first i).take i).map acc,bfR nx first i)∧MapOf M (bfS nx first i)) N (by
  rintro i s hi ⟨M,rfl,hM⟩
  have hlt:=hN.2 i hi
  have hG:=H.at hlt
  have hle:=H.le i
  have hle':=H.le (i+1)
  obtain ⟨M',e,hM'⟩:=CG (p3:=p3) (l:=bfS nx first i) (M:=M) (os:=nx (nth (bfS nx first i) (i:Int))) (acs:=((bfS nx first i).take i).map acc) (rws:=bfR nx first i) hlt (H.len _ hG) hM (fun y hy=>hok y (H.gn _ hG y hy))
   (fun k=>by
    have:(nbS (bfS nx first i) ((nx (nth (bfS nx first i) (i:Int))).take k)).length≤B:=H.bound _ (pv (ng i)) fun x hx=>by
     rcases tL.1 hx with hx | hx
     ·exact jX H.g0 H.gn i x hx
     ·exact H.gn _ hG x (List.mem_of_mem_take hx)
    omega) (fun k hk=>h3 _ k hG hk)
  unfold bq
  simp only
  rw[if_pos (by simp;omega),af e,←ja hlt]
  rw[←ja hlt] at hM'
  have hl2:=(ba (nx:=nx) (first:=first) i).length_le
  simp only
  rw[if_neg (by simp;omega),aj (by omega) (by omega)];simp only[Option.bind_some]
  rw[im (ba i) (by omega) (by omega),h2 _ hG];simp only[Option.bind_some]
  have hr:(bfR nx first i).length=i:=ij fun j hj=>hN.2 j (by omega)
  rw[aw (by simp;omega)];simp only[Option.bind_some]
  rw[aw (by simp;omega)];simp only[Option.bind_some,aa (show i<9223372036854775807 by omega)]
  exact ⟨_,rfl,M',by rw[vn hlt,sJ hlt],hM'⟩) (by
  rintro s ⟨M,rfl,hM⟩
  unfold bq
  simp only
  rw[if_neg (by have:=hN.1;simp;omega)]) (s:=([first],[(first,0)],0,0,[],[])) ⟨_,rfl,MapOf.one first⟩ (kp (by omega))
 rw[af e]
 simp only
 rw[List.take_of_length_le (by have:=hN.1;omega)]
end
theorem Ov {l:List Int} {x:Int} (h:l.length≤9223372036854775807):lu l x=some (if x∈l then (l.idxOf x:Int) else -1):=by
 unfold lu
 obtain ⟨o,e,hq⟩:=cJ (f:=mB l x) (fun i s=>s=(i:Int)∧x∉l.take i) (fun o=>(x∈l∧o= .ret (l.idxOf x:Int))∨(x∉l∧ ∃s,o= .brk s)) l.length (s:=0) (by
  rintro i s hi ⟨rfl,hx⟩
  unfold mB
  by_cases hl:i<l.length
  ·rw[if_pos (by simp;omega),aj (by omega) (by omega)];simp only[Option.bind_some]
   by_cases c:nth l (i:Int)=x
   ·refine .inr ⟨_,by rw[if_pos (by simpa using c)],(fun s' e=>by cases e),.inl ?_⟩
    have e:l=l.take i++(x::l.drop (i+1)):=by
     rw[←c,bw hl,←List.drop_eq_getElem_cons hl,List.take_append_drop]
    refine ⟨by rw[e];simp,?_⟩
    congr 1
    conv=>rhs;rw[e,List.idxOf_append,if_neg hx,List.idxOf_cons_self]
    simp[List.length_take];first | done | omega
   ·refine .inl ⟨hl,_,by rw[if_neg (by simpa using c)],by rw[aa (by omega)],?_⟩
    rw[take_one hl,List.mem_append,List.mem_singleton]
    rintro (h | h)
    ·exact hx h
    ·exact c h.symm
  ·refine .inr ⟨_,by rw[if_neg (by simp;omega)],(fun s' e=>by cases e),.inr ⟨?_,_,rfl⟩⟩
   rwa [List.take_of_length_le (by omega)] at hx) ⟨rfl,by simp⟩ (kp h)
 rcases hq with ⟨hx,rfl⟩ | ⟨hx,s,rfl⟩
 ·rw[bE e,if_pos hx]
 ·rw[af e,if_neg hx]
section
variable {a:AutT} {n:Nat} {c:List Int} {lv:List Bool} {nx:Int→List (Option Int)} {G:Int→Prop} {B:Nat} {acc:Int→Bool}
def good (n:Nat) (lv:List Bool) (r:Int):Prop:=0≤r∧r<n∧nth lv r=true
def tR (a:AutT) (c:List Int) (lv:List Bool) (r:Int):List (Option Int):=(List.range 9).map fun k=>if mv a r k≥0∧nth lv (mv a r k)=true then some (nth c (mv a r k)) else none
theorem FI {r:Int} {k:Nat} (hk:k<9):nth (tR a c lv r) (k:Int)=if mv a r k≥0∧nth lv (mv a r k)=true then some (nth c (mv a r k)) else none:=by
 have:k<(tR a c lv r).length:=by simp[tR];omega
 rw[bw this];simp[tR]
def RepsOf (n:Nat) (lv:List Bool) (c:List Int) (rs l:List Int):Prop:=rs.length=l.length∧ ∀j:Nat,j<l.length→good n lv (nth rs j)∧nth c (nth rs j)=nth l (j:Int)
theorem RepsOf.snoc {rs l:List Int} (h:RepsOf n lv c rs l) {t:Int} (ht:good n lv t):RepsOf n lv c (rs++ [t]) (l++ [nth c t]):=by
 refine ⟨by simp[h.1],fun j hj=>?_⟩
 by_cases e:j<l.length
 ·rw[lQ (by omega) (by have:=h.1;omega),lQ (by omega) (by omega)];exact h.2 j e
 ·have e:j=l.length:=by simp at hj;omega
  subst e
  have h1:nth (rs++ [t]) (l.length:Int)=t:=by rw[bw (by simp[h.1])];simp[←h.1]
  have h2:nth (l++ [nth c t]) (l.length:Int)=nth c t:=by rw[bw (by simp)];simp
  rw[h1,h2];exact ⟨ht,rfl⟩
theorem Kk (V:VA a n) (hn:n≤1000000) (hc:c.length=n) (hlv:lv.length=n) {l rs:List Int} {acs:List Bool} {rws:List (List Int)} {i:Nat} (hi:i<l.length) (hR:RepsOf n lv c rs l) {os:List (Option Int)} (hos:os.length=9)
  (ho: ∀r,good n lv r→nth c r=nth l (i:Int)→tR a c lv r=os) (hB: ∀k,(nbS l (os.take k)).length≤1000000) :
  ∃rs',ai (eM a c lv (l,rs,(i:Int),0,acs,rws)) aD (l,rs,[],0)=some (.brk (nbS l os,rs',nbR l os,9))∧RepsOf n lv c rs' (nbS l os):=by
 obtain ⟨s',e,rs',rfl,hR'⟩:=nc (f:=eM a c lv (l,rs,(i:Int),0,acs,rws)) (fun k s=> ∃rs',s=(nbS l (os.take k),rs',nbR l (os.take k),(k:Int))∧RepsOf n lv c rs' (nbS l (os.take k))) 9 (by
  rintro k s hk ⟨r1,rfl,hR1⟩
  have hpre:=jx l (os.take k)
  have hlen:=hpre.length_le
  have hBk:=hB k
  have hrl:(nbR l (os.take k)).length≤9:=by rw[dj,List.length_take];omega
  have hr1:=hR1.1
  obtain ⟨⟨g0,g1,g2⟩,gc⟩:=hR1.2 i (by omega)
  rw[im hpre (by omega) (by omega)] at gc
  have hsu:=ho _ ⟨g0,g1,g2⟩ gc
  have hok:nth os (k:Int)=if mv a (nth r1 (i:Int)) k≥0∧nth lv (mv a (nth r1 (i:Int)) k)=true then some (nth c (mv a (nth r1 (i:Int)) k)) else none:=by
   rw[←hsu];exact FI hk
  have hmv:=V.mv (s:=nth r1 (i:Int)) (k:=k) g0 g1 hk
  unfold eM
  simp only
  rw[if_pos (by simp;omega),aj (xs:=r1) (by omega) (by omega)];simp only[Option.bind_some]
  rw[V.get g0 g1];simp only[Option.bind_some]
  rw[V.get2 g0 g1 hk,take_one (by omega),sD,qa]
  simp only[Option.bind_some,aa (show k<9223372036854775807 by omega)]
  by_cases c1:mv a (nth r1 (i:Int)) k≥0
  ·rw[if_pos (by simpa using c1),aj (xs:=lv) c1 (by omega)];simp only[Option.bind_some]
   by_cases c2:nth lv (mv a (nth r1 (i:Int)) k)=true
   ·rw[if_pos ⟨c1,c2⟩] at hok
    rw[if_pos c2,aj (xs:=c) c1 (by omega),hok];simp only[Option.bind_some]
    rw[Ov (by omega)];simp only[Option.bind_some]
    by_cases c3:nth c (mv a (nth r1 (i:Int)) k)∈nbS l (os.take k)
    ·rw[if_pos c3,if_neg (by simp)];simp only[Option.bind_some]
     rw[aw (by simp;omega)]
     exact ⟨_,rfl,r1,by rw[kE c3];rfl,by rw[kE c3];exact hR1⟩
    ·rw[if_neg c3,if_pos (by decide)]
     rw[aw (by simp;omega)];simp only[Option.bind_some]
     rw[aw (by simp;omega)];simp only[Option.bind_some]
     rw[aw (by simp;omega)];simp only[Option.bind_some]
     refine ⟨_,rfl,r1++ [mv a (nth r1 (i:Int)) k],?_,?_⟩
     ·rw[jy c3];simp only[nbI,nf c3]
     ·rw[jy c3];exact hR1.snoc ⟨c1,hmv.2,c2⟩
   ·rw[if_neg (fun h=>c2 h.2)] at hok
    rw[if_neg c2,hok];simp only[Option.bind_some]
    rw[aw (by simp;omega)]
    exact ⟨_,rfl,r1,rfl,hR1⟩
  ·rw[if_neg (fun h=>c1 h.1)] at hok
   rw[if_neg (by simpa using c1),hok];simp only[Option.bind_some]
   rw[aw (by simp;omega)]
   exact ⟨_,rfl,r1,rfl,hR1⟩) (by
  rintro s ⟨r1,rfl,hR1⟩
  unfold eM
  simp) (s:=(l,rs,[],0)) ⟨rs,rfl,hR⟩ (by unfold aD;omega)
 rw[List.take_of_length_le (by omega)] at e hR'
 exact ⟨rs',e,hR'⟩
theorem R8 (V:VA a n) (hn:n≤1000000) (hc:c.length=n) (hlv:lv.length=n) (hs:nth lv a.1=true) (H:NumOk nx (nth c a.1) G B) (hB:B≤1000000)
  (hnx: ∀r,good n lv r→nx (nth c r)=tR a c lv r) (hacc: ∀r,good n lv r→acc (nth c r)=nth a.2.1 r) :
  ∃N,bfE nx (nth c a.1) N∧fM a c lv=some (0,(bfS nx (nth c a.1) N).map acc,bfR nx (nth c a.1) N):=by
 obtain ⟨N,hNB,hN⟩:=Om (nx:=nx) (first:=nth c a.1) (H.le)
 refine ⟨N,hN,?_⟩
 have hst:=V.start
 have hlen:=V.len
 unfold fM
 rw[aj hst.1 (by omega)];simp only[Option.bind_some]
 rw[if_pos hs,aj hst.1 (by omega)];simp only[Option.bind_some]
 obtain ⟨s',e,rs,rfl,hR⟩:=nc (f:=gy a c lv) (fun i s=> ∃rs,s=(bfS nx (nth c a.1) i,rs,(i:Int),0,((bfS nx (nth c a.1) i).take i).map acc,bfR nx (nth c a.1) i)∧RepsOf n lv c rs (bfS nx (nth c a.1) i)) N (by
  rintro i s hi ⟨rs,rfl,hR⟩
  have hlt:=hN.2 i hi
  have hG:=H.at hlt
  have hle:=H.le i
  have hle':=H.le (i+1)
  obtain ⟨rs',e,hR'⟩:=Kk (acs:=((bfS nx (nth c a.1) i).take i).map acc) (rws:=bfR nx (nth c a.1) i) V hn hc hlv hlt hR (os:=nx (nth (bfS nx (nth c a.1) i) (i:Int))) (H.len _ hG) (fun r hr e=>by rw[←hnx r hr,e]) (fun k=>by
    have:(nbS (bfS nx (nth c a.1) i) ((nx (nth (bfS nx (nth c a.1) i) (i:Int))).take k)).length≤B:=H.bound _ (pv (ng i)) fun x hx=>by
     rcases tL.1 hx with hx | hx
     ·exact jX H.g0 H.gn i x hx
     ·exact H.gn _ hG x (List.mem_of_mem_take hx)
    omega)
  unfold gy
  simp only
  rw[if_pos (by simp;omega),af e]
  rw[←ja hlt] at hR'
  have hl2:=(ba (nx:=nx) (first:=nth c a.1) i).length_le
  have hr1:=hR'.1
  obtain ⟨⟨g0,g1,g2⟩,gc⟩:=hR'.2 i (by omega)
  rw[im (ba i) (by omega) (by omega)] at gc
  rw[aj (xs:=rs') (by omega) (by omega)];simp only[Option.bind_some]
  rw[V.acc g0 g1,←hacc _ ⟨g0,g1,g2⟩,gc];simp only[Option.bind_some]
  have hr:(bfR nx (nth c a.1) i).length=i:=ij fun j hj=>hN.2 j (by omega)
  rw[aw (by simp;omega)];simp only[Option.bind_some]
  rw[aw (by simp;omega)];simp only[Option.bind_some,aa (show i<9223372036854775807 by omega)]
  exact ⟨_,rfl,rs',by rw[←ja hlt,vn hlt,sJ hlt],hR'⟩) (by
  rintro s ⟨rs,rfl,hR⟩
  unfold gy
  simp only
  rw[if_neg (by have:=hN.1;simp;omega)]) (s:=([nth c a.1],[a.1],0,0,[],[])) ⟨[a.1],rfl,rfl,fun j hj=>by
   obtain rfl:j=0:=by simpa [bfS] using hj
   exact ⟨⟨hst.1,hst.2,hs⟩,rfl⟩⟩ (kp (by omega))
 rw[af e]
 simp only
 rw[List.take_of_length_le (by have:=hN.1;omega)]
theorem El (V:VA a n) (hlv:lv.length=n) (hs:nth lv a.1=false):fM a c lv=some nothing:=by
 have hst:=V.start
 unfold fM
 rw[aj hst.1 (by omega)];simp only[Option.bind_some]
 rw[hs,Kh];rfl
end
end D
namespace D
open Go.RowKit
abbrev CZ:=(List Int)×Int×Int×(List Int)×Bool
abbrev Ni (x:Int) (j:Nat):Bool:=(pC (lU x (j:Int)) 1)==1
def Nj (F:List Int) (set m0:Int):Nat→Int
 | 0=>m0
 | i+1=>if Ni set (i+1) then orI (Nj F set m0 i) (nth F (i:Int)) else Nj F set m0 i
def pick (L:List Int) (m letter:Int):Nat→Int
 | 0=>0
 | i+1=>if nth L (i:Int)=letter∧Ni m i=true then orI (pick L m letter i) (sU 1 ((i+1:Nat):Int)) else pick L m letter i
def aft (p:CZ) (set letter:Int):Int:=pick p.1 (Nj p.2.2.2.1 set (if (pC set 1)==1 then p.2.1 else 0) p.2.2.2.1.length) letter p.1.length
def sK (p:CZ) (set:Int):Bool:=if (pC set 1)==1 then (if p.2.2.2.2 then true else (pC (lU set 1) p.2.2.1) !=0) else (pC (lU set 1) p.2.2.1) !=0
theorem py (i:Nat):chk (0≤(i:Int))=some ():=by unfold chk;rw[if_pos (by omega)]
theorem Qt {p:CZ} {set letter:Int} (hl:p.2.2.2.1.length=p.1.length) (hb:p.1.length≤1000000):l8 p set letter=some (aft p set letter):=by
 have h0: ∀m0,ai (fl p set) aD (m0,0)=some (.brk (Nj p.2.2.2.1 set m0 p.1.length,(p.1.length:Int))):=fun m0 =>
  aA (f:=fl p set) (fun i=>(Nj p.2.2.2.1 set m0 i,(i:Int))) p.1.length (fun i hi=>by
   unfold fl
   simp only
   rw[if_pos (by simp;omega),aa (by omega),py];simp only[Option.bind_some]
   rw[Nj]
   by_cases c:Ni set (i+1)=true
   ·rw[if_pos c,if_pos c,aj (by omega) (by omega)];rfl
   ·rw[if_neg c,if_neg c];rfl) (by unfold fl;simp) (kp (by omega))
 have h1: ∀s7:Int×Int,ai (fm p letter s7) aD (0,0)=some (.brk (pick p.1 s7.1 letter p.1.length,(p.1.length:Int))):=fun s7 =>
  aA (f:=fm p letter s7) (fun i=>(pick p.1 s7.1 letter i,(i:Int))) p.1.length (fun i hi=>by
   unfold fm
   simp only
   rw[if_pos (by simp;omega),aa (by omega),py,py];simp only[Option.bind_some]
   rw[pick]
   by_cases c:Ni s7.1 i=true
   ·rw[if_pos c,aj (by omega) (by omega)];simp only[Option.bind_some]
    by_cases d:nth p.1 (i:Int)=letter
    ·rw[if_pos (by simpa using d),if_pos ⟨d,c⟩];rfl
    ·rw[if_neg (by simpa using d),if_neg (fun h=>d h.1)];rfl
   ·rw[if_neg c,if_neg (fun h=>c h.2)];rfl) (by unfold fm;simp) (kp (by omega))
 unfold l8 aft
 rw[hl]
 by_cases c:((pC set 1)==1)=true
 ·rw[if_pos c,if_pos c];simp only[Option.bind_some]
  rw[af (h0 _),af (h1 _)]
 ·rw[if_neg c,if_neg c];simp only[Option.bind_some]
  rw[af (h0 _),af (h1 _)]
theorem Qu {p:CZ} {set letter:Int} (hl:p.2.2.2.1.length=p.1.length) (hb:p.1.length≤1000000):eB p set letter=some (aft p set letter):=by
 have h0: ∀m0,ai (bY p set) aD (m0,0)=some (.brk (Nj p.2.2.2.1 set m0 p.2.2.2.1.length,(p.2.2.2.1.length:Int))):=fun m0 =>
  aA (f:=bY p set) (fun i=>(Nj p.2.2.2.1 set m0 i,(i:Int))) p.2.2.2.1.length (fun i hi=>by
   unfold bY
   simp only
   rw[if_pos (by simp;omega),aj (by omega) (by omega)];simp only[Option.bind_some]
   rw[aa (by omega),py];simp only[Option.bind_some]
   rw[Nj]
   by_cases c:Ni set (i+1)=true
   ·rw[if_pos c,if_pos c];rfl
   ·rw[if_neg c,if_neg c];rfl) (by unfold bY;simp) (kp (by omega))
 have h1: ∀s7:Int×Int,ai (bZ p letter s7) aD (0,0)=some (.brk (pick p.1 s7.1 letter p.1.length,(p.1.length:Int))):=fun s7 =>
  aA (f:=bZ p letter s7) (fun i=>(pick p.1 s7.1 letter i,(i:Int))) p.1.length (fun i hi=>by
   unfold bZ
   simp only
   rw[if_pos (by simp;omega),aj (by omega) (by omega)];simp only[Option.bind_some]
   rw[aa (by omega),py,py];simp only[Option.bind_some]
   rw[pick]
   by_cases d:nth p.1 (i:Int)=letter
   ·rw[if_pos (by simpa using d)]
    by_cases c:Ni s7.1 i=true
    ·rw[if_pos c,if_pos ⟨d,c⟩];rfl
    ·rw[if_neg c,if_neg (fun h=>c h.2)];rfl
   ·rw[if_neg (by simpa using d),if_neg (fun h=>d h.1)];rfl) (by unfold bZ;simp) (kp (by omega))
 unfold eB aft
 by_cases c:((pC set 1)==1)=true
 ·rw[if_pos c,if_pos c];simp only[Option.bind_some]
  rw[af (h0 _),af (h1 _)]
 ·rw[if_neg c,if_neg c];simp only[Option.bind_some]
  rw[af (h0 _),af (h1 _)]
theorem R9 (p:CZ) (x:Int):jH p x=some (sK p x):=by
 unfold jH sK
 split <;> (try split) <;> rfl
theorem Sa (p:CZ) (x:Int):ct p x=some (sK p x):=by
 unfold ct sK
 split <;> (try split) <;> rfl
theorem Hc (x:Int): -9223372036854775808≤IntKind.i64.wrap x∧IntKind.i64.wrap x≤9223372036854775807:=by
 simp only[IntKind.wrap,IntKind.bits,IntKind.signed,Bool.true_and]
 split <;> rename_i h <;> simp at h <;> omega
theorem Qv (x:Int):iOk (IntKind.i64.wrap x)=true:=by
 have h1:IntKind.i64.min= -9223372036854775808:=by decide
 have h2:IntKind.i64.max=9223372036854775807:=by decide
 have h3:=Hc x
 simp only[iOk,Lit.wf,h1,h2,Bool.and_eq_true,decide_eq_true_eq]
 omega
theorem Sb (m n:Int):iOk (orI m n)=true:=Qv _
theorem Kl (L:List Int) (m letter:Int): ∀i,iOk (pick L m letter i)=true
 | 0=>by unfold pick;decide
 | i+1=>by
  rw[pick]
  split
  ·exact Sb _ _
  ·exact Kl L m letter i
def nxS (p:CZ) (x:Int):List (Option Int):=(List.range 9).map fun k:Nat=>if aft p x (k:Int)=0 then none else some (aft p x (k:Int))
theorem Ow {p:CZ} {x:Int} {k:Nat} (hk:k<9):nth (nxS p x) (k:Int)=if aft p x k=0 then none else some (aft p x k):=by
 have:k<(nxS p x).length:=by simp[nxS];omega
 rw[bw this];simp[nxS]
theorem AO (p:CZ) (x:Int):(nxS p x).length=9:=by simp[nxS]
theorem Sc {p:CZ} {x y:Int} (h:some y∈nxS p x):iOk y=true:=by
 obtain ⟨k,hk,e⟩:=List.mem_map.1 h
 split at e
 ·cases e
 ·obtain rfl:=Option.some.inj e
  exact Kl _ _ _ _
theorem Km {κ:Type} [DecidableEq κ] : ∀(l:List κ) (os:List (Option κ)),(nbS l os).length≤l.length+os.length
 | l,[] =>by simp[nbS]
 | l,o::os=>by
  have h:=Km (nbL l o) os
  have h2:(nbL l o).length≤l.length+1:=by
   cases o with
   | none=>simp[nbL]
   | some x=>unfold nbL;simp only;split <;> simp
  show (nbS (nbL l o) os).length≤_
  simp only[List.length_cons];omega
section
variable {κ:Type} [DecidableEq κ] (nx:κ→List (Option κ)) (first:κ) (acc:κ→Bool) (most:Nat)
def goM:Nat→Nat→AutT×Bool
 | 0,i=>((0,[],[]),false)
 | f+1,i=>if i<(bfS nx first i).length then (if (bfS nx first (i+1)).length>most then ((0,[],[]),false) else goM f (i+1)) else ((0,((bfS nx first i).take i).map acc,bfR nx first i),true)
end
section
variable {κ:Type} [DecidableEq κ] {nx:κ→List (Option κ)} {first:κ} {acc:κ→Bool} {most:Nat}
theorem AP {i:Nat} (h: ∀j,j<i→j<(bfS nx first j).length):i≤(bfS nx first i).length:=by
 cases i with
 | zero=>omega
 | succ i =>
  have h1:=h i (by omega)
  have h2:=(ba (nx:=nx) (first:=first) i).length_le
  omega
theorem FJ {S:Type} {f:S→Option (Out (AutT×Bool) S)} (hm:most≤1000000) (h1:1≤most) (st:Nat→S→Prop)
  (hs: ∀i s,st i s→(∀j,j<i→j<(bfS nx first j).length)→(bfS nx first i).length≤most→i<(bfS nx first i).length→((bfS nx first (i+1)).length>most→f s=some (.ret ((0,[],[]),false)))∧((bfS nx first (i+1)).length≤most→ ∃s',f s=some (.nxt s')∧st (i+1) s'))
  (he: ∀i s,st i s→ ¬i<(bfS nx first i).length→f s=some (.brk s)) {s:S} (h0:st 0 s) :
  (ai f aD s=some (.ret ((0,[],[]),false))∧goM nx first acc most (most+2) 0=((0,[],[]),false)) ∨
  ∃N s',ai f aD s=some (.brk s')∧st N s'∧bfE nx first N∧N≤most∧goM nx first acc most (most+2) 0=((0,(bfS nx first N).map acc,bfR nx first N),true):=by
 obtain ⟨o,e,hq⟩:=cJ (f:=f) (fun i s=>st i s∧(∀j,j<i→j<(bfS nx first j).length)∧(bfS nx first i).length≤most∧goM nx first acc most (most+2) 0=goM nx first acc most (most+2 - i) i)
  (fun o=>(o= .ret ((0,[],[]),false)∧goM nx first acc most (most+2) 0=((0,[],[]),false))∨ ∃N s',o= .brk s'∧st N s'∧bfE nx first N∧N≤most∧goM nx first acc most (most+2) 0=((0,(bfS nx first N).map acc,bfR nx first N),true)) most (s:=s) (by
  rintro i s hi ⟨k1,k2,k3,k4⟩
  have hle:=AP k2
  rw[show most+2 - i=(most+1 - i)+1 from by omega] at k4
  have k5:goM nx first acc most (most+1 - i+1) i=if i<(bfS nx first i).length then (if (bfS nx first (i+1)).length>most then ((0,[],[]),false) else goM nx first acc most (most+1 - i) (i+1)) else ((0,((bfS nx first i).take i).map acc,bfR nx first i),true):=rfl
  rw[k5] at k4
  by_cases c:i<(bfS nx first i).length
  ·rw[if_pos c] at k4
   obtain ⟨q1,q2⟩:=hs i s k1 k2 k3 c
   by_cases d:(bfS nx first (i+1)).length>most
   ·rw[if_pos d] at k4
    exact .inr ⟨_,q1 d,(fun s' e=>by cases e),.inl ⟨rfl,k4⟩⟩
   ·rw[if_neg d] at k4
    obtain ⟨s',e,hs'⟩:=q2 (by omega)
    exact .inl ⟨by omega,s',e,hs',fun j hj=>(by
     by_cases ej:j=i
     ·subst ej;exact c
     ·exact k2 j (by omega)),by omega,by rw[k4];congr 1;omega⟩
  ·rw[if_neg c] at k4
   refine .inr ⟨_,he i s k1 c,(fun s' e=>by cases e),.inr ⟨i,s,rfl,k1,⟨by omega,k2⟩,hi,?_⟩⟩
   rw[k4,List.take_of_length_le (by omega)]) ⟨h0,fun j hj=>by omega,by simp[bfS];omega,rfl⟩ (kp (by omega))
 rcases hq with ⟨rfl,h⟩ | ⟨N,s',rfl,h⟩
 ·exact .inl ⟨e,h⟩
 ·exact .inr ⟨N,s',e,h⟩
end
section
variable {p:CZ} {most:Nat} (hl:p.2.2.2.1.length=p.1.length) (hb:p.1.length≤1000000) (hm:most≤900000) (h1:1≤most)
include hl hb hm h1
theorem TG:fA p most=some (goM (nxS p) 1 (sK p) most (most+2) 0):=by
 have hp3: ∀(l:List Int) (i k:Nat),k<9→ ∃j,(fun a0 a1=>b8 a0 a1 (p.1,p.2.1,p.2.2.1,p.2.2.2.1,p.2.2.2.2)) (nth l (i:Int)) (k:Int)=some (match nth (nxS p (nth l (i:Int))) (k:Int) with | some y=>(y,true) | none=>(j,false)):=by
  intro l i k hk
  refine ⟨0,?_⟩
  show b8 _ _ p=_
  unfold b8
  simp only[fc]
  rw[Qu hl hb,Ow hk];simp only[Option.bind_some]
  by_cases c:aft p (nth l (i:Int)) k=0
  ·rw[if_pos c];simp[c]
  ·rw[if_neg c];simp[c]
 unfold fA df
 rw[show HQ ([] :List (Int×Int)) iOk iOk 1 0=some [(1,0)] from by unfold HQ;rw[if_pos ⟨by simp,by decide,by decide⟩]];simp only[Option.bind_some]
 rcases FJ (nx:=nxS p) (first:=1) (acc:=sK p) (most:=most) (f:=bq most (fun a0=>ct (p.1,p.2.1,p.2.2.1,p.2.2.2.1,p.2.2.2.2) a0) (fun a0 a1=>b8 a0 a1 (p.1,p.2.1,p.2.2.1,p.2.2.2.1,p.2.2.2.2)))
  (by omega) h1 (fun i s=> ∃M,s=(bfS (nxS p) 1 i,M,(i:Int),0,((bfS (nxS p) 1 i).take i).map (sK p),bfR (nxS p) 1 i)∧MapOf M (bfS (nxS p) 1 i)) (by
   rintro i s ⟨M,rfl,hM⟩ hj hle hlt
   have hil:=AP hj
   obtain ⟨M',e,hM'⟩:=CG (p3:=fun a0 a1=>b8 a0 a1 (p.1,p.2.1,p.2.2.1,p.2.2.2.1,p.2.2.2.2)) (l:=bfS (nxS p) 1 i) (M:=M) (os:=nxS p (nth (bfS (nxS p) 1 i) (i:Int))) (acs:=((bfS (nxS p) 1 i).take i).map (sK p)) (rws:=bfR (nxS p) 1 i) hlt (AO _ _) hM (fun y hy=>Sc hy)
    (fun k=>by
     have:=Km (bfS (nxS p) 1 i) ((nxS p (nth (bfS (nxS p) 1 i) (i:Int))).take k)
     have h9:=AO p (nth (bfS (nxS p) 1 i) (i:Int))
     rw[List.length_take] at this
     omega) (fun k hk=>hp3 _ i k hk)
   rw[←ja hlt] at hM'
   have hl2:=(ba (nx:=nxS p) (first:=1) i).length_le
   constructor
   ·intro hgt
    unfold bq
    simp only
    rw[if_pos (by simp;omega),af e,←ja hlt]
    simp only
    rw[if_pos (by simp;omega)]
   ·intro hle2
    unfold bq
    simp only
    rw[if_pos (by simp;omega),af e,←ja hlt]
    simp only
    rw[if_neg (by simp;omega),aj (by omega) (by omega)];simp only[Option.bind_some]
    rw[im (ba i) (by omega) (by omega)]
    simp only[fc]
    rw[Sa];simp only[Option.bind_some]
    have hr:(bfR (nxS p) 1 i).length=i:=ij hj
    rw[aw (by simp;omega)];simp only[Option.bind_some]
    rw[aw (by simp;omega)];simp only[Option.bind_some,aa (show i<9223372036854775807 by omega)]
    exact ⟨_,rfl,M',by rw[vn hlt,sJ hlt],hM'⟩) (by
   rintro i s ⟨M,rfl,hM⟩ hn
   unfold bq
   simp only
   rw[if_neg (by simp;omega)]) (s:=([1],[(1,0)],0,0,[],[])) ⟨_,rfl,MapOf.one 1⟩ with ⟨e,hg⟩ | ⟨N,s',e,⟨M,rfl,hM⟩,hN,hNm,hg⟩
 ·rw[bE e,hg];rfl
 ·rw[af e,hg];simp only[Option.bind_some]
  rw[List.take_of_length_le (by have:=hN.1;omega)]
theorem Nk {l:List Int} {acs:List Bool} {rws:List (List Int)} {i:Nat} (hi:i<l.length) (hle:l.length≤most) :
  ai (dP p (l,(i:Int),0,acs,rws)) aD (l,[],0)=some (.brk (nbS l (nxS p (nth l (i:Int))),nbR l (nxS p (nth l (i:Int))),9)):=by
 have h9:=AO p (nth l (i:Int))
 have:=aA (f:=dP p (l,(i:Int),0,acs,rws)) (fun k=>(nbS l ((nxS p (nth l (i:Int))).take k),nbR l ((nxS p (nth l (i:Int))).take k),(k:Int))) 9 (fun k hk=>by
  have hpre:=jx l ((nxS p (nth l (i:Int))).take k)
  have hlen:=hpre.length_le
  have hB:=Km l ((nxS p (nth l (i:Int))).take k)
  rw[List.length_take] at hB
  have hrl:(nbR l ((nxS p (nth l (i:Int))).take k)).length≤9:=by rw[dj,List.length_take];omega
  unfold dP
  simp only[fc]
  rw[if_pos (by simp;omega),aj (by omega) (by omega)];simp only[Option.bind_some]
  rw[im hpre (by omega) (by omega),Qt hl hb];simp only[Option.bind_some]
  rw[take_one (by omega),sD,qa,Ow hk]
  simp only[aa (show k<9223372036854775807 by omega)]
  by_cases c:aft p (nth l (i:Int)) k=0
  ·rw[if_pos c,if_neg (by simp[c])];simp only[Option.bind_some]
   rw[aw (by simp;omega)];rfl
  ·rw[if_neg c,if_pos (by simpa using c),Ov (by omega)];simp only[Option.bind_some]
   by_cases d:aft p (nth l (i:Int)) k∈nbS l ((nxS p (nth l (i:Int))).take k)
   ·rw[if_pos d,if_neg (by simp),kE d];simp only[Option.bind_some]
    rw[aw (by simp;omega)];rfl
   ·rw[if_neg d,if_pos (by decide),aw (by simp;omega),jy d];simp only[Option.bind_some]
    rw[aw (by simp;omega)];simp only[nbI,nf d,Option.bind_some]) (by
  unfold dP
  simp) (by unfold aD;omega)
 have e9:(nxS p (nth l (i:Int))).take 9=nxS p (nth l (i:Int)):=List.take_of_length_le (by omega)
 rw[e9] at this
 exact this
theorem TH:gg p most=some (goM (nxS p) 1 (sK p) most (most+2) 0):=by
 unfold gg
 rcases FJ (nx:=nxS p) (first:=1) (acc:=sK p) (most:=most) (f:=dQ p most)
  (by omega) h1 (fun i s=>s=(bfS (nxS p) 1 i,(i:Int),0,((bfS (nxS p) 1 i).take i).map (sK p),bfR (nxS p) 1 i)) (by
   rintro i s rfl hj hle hlt
   have hil:=AP hj
   have e:=Nk hl hb hm h1 (acs:=((bfS (nxS p) 1 i).take i).map (sK p)) (rws:=bfR (nxS p) 1 i) hlt hle
   have hl2:=(ba (nx:=nxS p) (first:=1) i).length_le
   constructor
   ·intro hgt
    unfold dQ
    simp only
    rw[if_pos (by simp;omega),af e,←ja hlt]
    simp only
    rw[if_pos (by simp;omega)]
   ·intro hle2
    unfold dQ
    simp only
    rw[if_pos (by simp;omega),af e,←ja hlt]
    simp only
    rw[if_neg (by simp;omega),aj (by omega) (by omega)];simp only[Option.bind_some]
    rw[im (ba i) (by omega) (by omega)]
    simp only[fc]
    rw[R9];simp only[Option.bind_some]
    have hr:(bfR (nxS p) 1 i).length=i:=ij hj
    rw[aw (by simp;omega)];simp only[Option.bind_some]
    rw[aw (by simp;omega)];simp only[Option.bind_some,aa (show i<9223372036854775807 by omega)]
    exact ⟨_,rfl,by rw[vn hlt,sJ hlt]⟩) (by
   rintro i s rfl hn
   unfold dQ
   simp only
   rw[if_neg (by simp;omega)]) (s:=([1],0,0,[],[])) rfl with ⟨e,hg⟩ | ⟨N,s',e,rfl,hN,hNm,hg⟩
 ·rw[bE e,hg]
 ·rw[af e,hg];simp only
  rw[List.take_of_length_le (by have:=hN.1;omega)]
end
end D
namespace D
open Go.RowKit
theorem Nl (m n:Int):orI m n=orI n m:=by unfold orI;rw[BitVec.or_comm]
def lk (F:List Int) (from_ to_:Int):Nat→List Int
 | 0=>F
 | i+1=>if Ni from_ i then (lk F from_ to_ i).set i (orI (nth (lk F from_ to_ i) (i:Int)) to_) else lk F from_ to_ i
theorem xm (F:List Int) (f t:Int): ∀i,(lk F f t i).length=F.length
 | 0=>rfl
 | i+1=>by
  rw[lk]
  split
  ·rw[List.length_set,xm]
  ·exact xm F f t i
theorem Ox {p:CZ} {f t:Int} (hl:p.2.2.2.1.length≤1000000):lr p f t=some (p.1,p.2.1,p.2.2.1,lk p.2.2.2.1 f t p.2.2.2.1.length,p.2.2.2.2):=by
 have hL:ai (gf f t) aD (0,p.2.2.2.1)=some (.brk ((p.2.2.2.1.length:Int),lk p.2.2.2.1 f t p.2.2.2.1.length)):=aA (f:=gf f t) (fun i=>((i:Int),lk p.2.2.2.1 f t i)) p.2.2.2.1.length (fun i hi=>by
  have hk:=xm p.2.2.2.1 f t i
  unfold gf
  simp only
  rw[if_pos (by simp;omega),py];simp only[Option.bind_some]
  rw[lk,aa (by omega)]
  by_cases c:Ni f i=true
  ·rw[if_pos c,if_pos c,aj (by omega) (by omega)];simp only[Option.bind_some,Int.toNat_natCast]
  ·rw[if_neg c,if_neg c];rfl) (by unfold gf;simp[xm]) (kp (by omega))
 unfold lr
 rw[af hL]
theorem FK {p:CZ} {f t:Int} (hl:p.2.2.2.1.length≤1000000):cz p f t=some (p.1,p.2.1,p.2.2.1,lk p.2.2.2.1 f t p.2.2.2.1.length,p.2.2.2.2):=by
 have hL:ai (bQ p f t) aD (0,p.2.2.2.1)=some (.brk ((p.2.2.2.1.length:Int),lk p.2.2.2.1 f t p.2.2.2.1.length)):=aA (f:=bQ p f t) (fun i=>((i:Int),lk p.2.2.2.1 f t i)) p.2.2.2.1.length (fun i hi=>by
  have hk:=xm p.2.2.2.1 f t i
  unfold bQ
  simp only
  rw[if_pos (by simp;omega),py];simp only[Option.bind_some]
  rw[lk,aa (by omega)]
  by_cases c:Ni f i=true
  ·rw[if_pos c,if_pos c,aj (by omega) (by omega)];simp only[Option.bind_some,Int.toNat_natCast]
  ·rw[if_neg c,if_neg c];rfl) (by unfold bQ;simp) (kp (by omega))
 unfold cz
 rw[af hL]
def BOk (x:Tr Tok):Prop:= ∀(n m:Nat) (p:CZ),(flat x).length≤n→(flat x).length≤m→p.2.2.2.1.length=p.1.length→p.1.length+(flat x).length≤100000→
 ∃(nu:Bool) (fi la:Int) (q:CZ),cm n p (flat x)=some ((nu,fi,la),q)∧aS m p x=some ((fi,la,nu),q)∧q.2.2.2.1.length=q.1.length∧q.1.length≤p.1.length+(flat x).length
theorem Nm {x:Tr Tok} (h:WT x):BOk x:=by
 refine WT.ind (p:=BOk) ?_ ?_ ?_ h
 ·intro t e n m p hn hm hF hl
  rw[ym] at hn hm hl⊢
  simp only[List.length_cons,List.length_nil] at hl
  match n,m,hn,hm with
  | n+1,m+1,_,_ =>
   rw[cm,aS];simp only[ni,Option.bind_some]
   have:=(kZ (A:=[]) (t:=t) (by simp)).1
   rw[List.nil_append] at this
   rw[this];simp only[Option.bind_some,fc]
   rcases lR (show 0≤ar t by omega) with ⟨k,_⟩ | ⟨k,_⟩ | ⟨_,k⟩
   ·omega
   ·omega
   rcases k with k | k | k
   ·exact ⟨false,0,0,p,by simp[k],by simp[k],hF,by simp⟩
   ·exact ⟨true,0,0,p,by simp[k],by simp[k],hF,by simp⟩
   ·refine ⟨false,sU 1 (p.1.length:Int),sU 1 (p.1.length:Int),(p.1++ [t.2.1],p.2.1,p.2.2.1,p.2.2.2.1++ [0],p.2.2.2.2),?_,?_,by simp[hF],by simp⟩
    ·rw[if_neg (by simp[k]),if_pos (by simp[k]),aw (by simp;omega)];simp only[Option.bind_some]
     rw[aw (by simp;omega)];rfl
    ·rw[if_neg (by simp[k]),if_pos (by simp[k]),aw (by simp;omega)];simp only[Option.bind_some]
     rw[aw (by simp;omega)];rfl
 ·intro t a e wa ih n m p hn hm hF hl
  rw[AI] at hn hm hl⊢
  simp only[List.length_append,List.length_cons,List.length_nil] at hn hm hl
  match n,m,hn,hm with
  | n+1,m+1,hn,hm =>
   rw[cm,aS];simp only[ni,Option.bind_some,fc]
   obtain ⟨l1,l2⟩:=kZ (A:=flat a) (t:=t) (by omega)
   rw[l1];simp only[Option.bind_some]
   obtain ⟨nu,fi,la,q,hs,hi,hq1,hq2⟩:=ih n m p (by omega) (by omega) hF (by omega)
   rcases Nd e with ⟨k1,k2⟩ | ⟨k1,k2,k3⟩
   ·have g2:(t.1==2)=false:=by simp[k2]
    have g3:(t.1==3)=false:=by simp[k2]
    have g4:(t.1==4)=false:=by simp[k2]
    have g5:(t.1==5)=false:=by simp[k2]
    simp only[g2,g3,g4,g5,k1,Bool.false_eq_true,if_false,if_true]
    rw[l2,Int.toNat_natCast,List.take_left,chk_of (by simp only[List.length_append,List.length_cons,List.length_nil];omega)];simp only[Option.bind_some]
    rw[hs,show az [a] 0=some a from rfl];simp only[Option.bind_some]
    rw[hi];simp only[Option.bind_some,fc]
    rw[Ox (by omega),FK (by omega)];simp only[Option.bind_some]
    refine ⟨true,fi,la,_,rfl,rfl,?_,?_⟩
    ·simp only[xm];exact hq1
    ·simp only[List.length_append,List.length_cons,List.length_nil];omega
   ·have g2:(t.1==2)=false:=by simp[k3]
    have g3:(t.1==3)=false:=by simp[k3]
    have g4:(t.1==4)=false:=by simp[k3]
    have g5:(t.1==5)=false:=by simp[k3]
    simp only[g2,g3,g4,g5,k1,Bool.false_eq_true,if_false]
    exact ⟨false,0,0,p,rfl,rfl,hF,by omega⟩
 ·intro t a b e wa wb iha ihb n m p hn hm hF hl
  rw[rq] at hn hm hl⊢
  have hl2:((flat a++flat b)++ [t]).length≤1000000:=by omega
  obtain ⟨p1,p2,p3,p4⟩:=xl (a:=a) (t:=t) wb hl2
  simp only[List.length_append,List.length_cons,List.length_nil] at hn hm hl
  match n,m,hn,hm with
  | n+1,m+1,hn,hm =>
   have hpa:=wa.pos
   have hpb:=wb.pos
   rw[cm,aS];simp only[ni,Option.bind_some,fc]
   obtain ⟨l1,l2⟩:=kZ (A:=flat a++flat b) (t:=t) (by rw[List.length_append];omega)
   rw[l1];simp only[Option.bind_some]
   obtain ⟨nu,fi,la,q,hs,hi,hq1,hq2⟩:=iha n m p (by omega) (by omega) hF (by omega)
   obtain ⟨nu2,fi2,la2,q2,hs2,hi2,hq3,hq4⟩:=ihb n m q (by omega) (by omega) hq1 (by omega)
   have c1: ∀r:Int,0≤r→r≤((flat a++flat b++ [t]).length:Int)→chk (0≤r∧r≤((flat a++flat b++ [t]).length:Int))=some ():=fun r h1 h2=>chk_of ⟨h1,h2⟩
   have g0:az [a,b] 0=some a:=rfl
   have g1:az [a,b] 1=some b:=rfl
   rcases lR (show 0≤ar t by omega) with ⟨_,k⟩ | ⟨k,_⟩ | ⟨k,_⟩
   ·rcases k with k | k
    ·have g2:(t.1==2)=false:=by simp[k]
     have g3:(t.1==3)=false:=by simp[k]
     have g4:(t.1==4)=true:=by simp[k]
     have g5:(t.1==5)=false:=by simp[k]
     simp only[g2,g3,g4,g5,Bool.false_eq_true,if_false,if_true]
     rw[l2,p1,p2,chk_of (by simp only[List.length_append,List.length_cons,List.length_nil];omega)];simp only[Option.bind_some]
     rw[chk_of (by simp only[List.length_append,List.length_cons,List.length_nil];omega),p3,p4,hs,g0,g1];simp only[Option.bind_some]
     rw[hi,chk_of (by simp only[List.length_append,List.length_cons,List.length_nil];omega)];simp only[Option.bind_some,fc]
     rw[hs2,hi2];simp only[Option.bind_some,fc]
     rw[Ox (by omega),FK (by omega)];simp only[Option.bind_some]
     refine ⟨nu&&nu2,if nu then orI fi fi2 else fi,if nu2 then orI la la2 else la2,(q2.1,q2.2.1,q2.2.2.1,lk q2.2.2.2.1 la fi2 q2.2.2.2.1.length,q2.2.2.2.2),?_,?_,?_,?_⟩
     ·cases nu <;> cases nu2 <;> rfl
     ·rw[Nl la la2]
      cases nu <;> cases nu2 <;> rfl
     ·simp only[xm];exact hq3
     ·simp only[List.length_append,List.length_cons,List.length_nil];omega
    ·have g2:(t.1==2)=false:=by simp[k]
     have g3:(t.1==3)=false:=by simp[k]
     have g4:(t.1==4)=false:=by simp[k]
     have g5:(t.1==5)=true:=by simp[k]
     simp only[g2,g3,g4,g5,Bool.false_eq_true,if_false,if_true]
     rw[l2,p1,p2,chk_of (by simp only[List.length_append,List.length_cons,List.length_nil];omega)];simp only[Option.bind_some]
     rw[chk_of (by simp only[List.length_append,List.length_cons,List.length_nil];omega),p3,p4,hs,g0,g1];simp only[Option.bind_some]
     rw[hi,chk_of (by simp only[List.length_append,List.length_cons,List.length_nil];omega)];simp only[Option.bind_some,fc]
     rw[hs2,hi2];simp only[Option.bind_some,fc]
     refine ⟨nu || nu2,orI fi fi2,orI la la2,q2,?_,?_,hq3,?_⟩
     ·cases nu <;> simp
     ·cases nu <;> simp
     ·simp only[List.length_append,List.length_cons,List.length_nil];omega
   ·omega
   ·omega
def Em (e:List Tok):Nat→Nat
 | 0=>0
 | i+1=>if (nth e (i:Int)).1=3 then Em e i+1 else Em e i
theorem En (e:List Tok): ∀i,Em e i≤i
 | 0=>Nat.le_refl _
 | i+1=>by
  have:=En e i
  rw[Em];split <;> omega
theorem TJ {r:List Tok×Bool} (hl:r.1.length≤1000000):ai (cn r) aD (0,0)=some (.brk ((Em r.1 r.1.length:Int),(r.1.length:Int))):=
 aA (f:=cn r) (fun i=>((Em r.1 i:Int),(i:Int))) r.1.length (fun i hi=>by
  have:=En r.1 i
  unfold cn
  simp only
  rw[if_pos (by simp;omega),aj (by omega) (by omega)];simp only[Option.bind_some]
  rw[Em,aa (show i<9223372036854775807 by omega),aa (show Em r.1 i<9223372036854775807 by omega)]
  by_cases c:(nth r.1 (i:Int)).1=3
  ·rw[if_pos (by simpa using c),if_pos c];rfl
  ·rw[if_neg (by simpa using c),if_neg c];rfl) (by unfold cn;simp) (kp (by omega))
theorem TK {r:List Tok×Bool} (hl:r.1.length≤1000000):ai (cr r) aD (0,0)=some (.brk ((Em r.1 r.1.length:Int),(r.1.length:Int))):=
 aA (f:=cr r) (fun i=>((Em r.1 i:Int),(i:Int))) r.1.length (fun i hi=>by
  have:=En r.1 i
  unfold cr
  simp only
  rw[if_pos (by simp;omega),aj (by omega) (by omega)];simp only[Option.bind_some]
  rw[Em,aa (show i<9223372036854775807 by omega),aa (show Em r.1 i<9223372036854775807 by omega)]
  by_cases c:(nth r.1 (i:Int)).1=3
  ·rw[if_pos (by simpa using c),if_pos c];rfl
  ·rw[if_neg (by simpa using c),if_neg c];rfl) (by unfold cr;simp) (kp (by omega))
theorem ru {e:List Tok} (he:e.length≤1048576): ∃r:CZ×Bool,eV e=some r∧eW e=some r∧r.1.2.2.2.1.length=r.1.1.length∧r.1.1.length≤100000:=by
 have hF:=sI
 obtain ⟨e1,e2⟩:=Ej he
 unfold eV eW
 rw[e1,e2];simp only[Option.bind_some]
 by_cases c:(Hb e).2=true
 ·obtain ⟨y,wy,ey,ly⟩:=Qq c
  rw[if_pos c,if_pos c,af (TJ (by rw[ey];omega)),af (TK (by rw[ey];omega))]
  simp only
  by_cases d:(Em (Hb e).1 (Hb e).1.length:Int)>20
  ·have d':decide ((Em (Hb e).1 (Hb e).1.length:Int)>20)=true:=decide_eq_true d
   simp only[d',if_true]
   exact ⟨_,rfl,rfl,rfl,by simp⟩
  ·have d':decide ((Em (Hb e).1 (Hb e).1.length:Int)>20)=false:=decide_eq_false d
   simp only[d',Bool.false_eq_true,if_false]
   rw[ey,AK (by omega),tO wy];simp only[Option.bind_some]
   obtain ⟨nu,fi,la,q,hs,hi,hq1,hq2⟩:=Nm wy eK eK ([],0,0,[],false) (by omega) (by omega) rfl (by simp;omega)
   rw[hs,hi];simp only[Option.bind_some]
   exact ⟨_,rfl,rfl,hq1,by simp at hq2;show q.1.length≤_;omega⟩
 ·rw[if_neg c,if_neg c]
  exact ⟨_,rfl,rfl,rfl,by simp⟩
end D
end Go.Proofs.YtakjhbbbjbebdaaGreat
