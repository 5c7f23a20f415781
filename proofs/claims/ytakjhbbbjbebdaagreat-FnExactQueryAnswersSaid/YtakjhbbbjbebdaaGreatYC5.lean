/- FnExactQueryAnswers: for every input the law returns true and changes nothing that was there. Part 6 of 7. -/
import Derived.Test.YtakjhbbbjbebdaaGreatYC4
set_option linter.unusedVariables false
set_option linter.unusedSimpArgs false
set_option linter.unnecessarySimpa false
set_option linter.unusedSectionVars false
set_option maxRecDepth 1000000
namespace Go.Proofs.YtakjhbbbjbebdaaGreat
namespace R
open Go.RowKit
open D
theorem m8:FOk Tryz.prog 275 ic:=fok (V:=⟨tt,[],[],12,[]⟩) al trivial mixed Tryz.func275 rfl rfl (enters_of Tryz.func275 (by kernel_rfl) rfl) rfl (Nat.le_of_ble_eq_true rfl) rfl .no (fun d=>by kernel_rfl)
theorem iX:FOk Tryz.prog 217 eX:=fok (V:=⟨tt,[(244,pa)],[],22,[]⟩) al ⟨uD,trivial⟩ mixed Tryz.func217 rfl rfl (enters_of Tryz.func217 (by kernel_rfl) rfl) rfl (Nat.le_of_ble_eq_true rfl) rfl .no (fun d=>by kernel_rfl)
theorem m9:FOk Tryz.prog 276 ig:=fok (V:=⟨tt,[(217,eX)],[],29,[]⟩) al ⟨iX,trivial⟩ mixed Tryz.func276 rfl rfl (enters_of Tryz.func276 (by kernel_rfl) rfl) rfl (Nat.le_of_ble_eq_true rfl) rfl .no (fun d=>by kernel_rfl)
theorem oB:FOk Tryz.prog 240 jd:=fok (V:=⟨tt,[(236,kB),(271,kh),(272,wQ),(273,hZ),(275,ic),(276,ig)],[],31,[]⟩) al ⟨ot,po,D5,m7,m8,m9,trivial⟩ mixed Tryz.func240 rfl rfl (enters_of Tryz.func240 (by kernel_rfl) rfl) rfl (Nat.le_of_ble_eq_true rfl) rfl .no (fun d=>by kernel_rfl)
theorem JD:FOk Tryz.prog 209 Cg:=fok (V:=⟨tt,[(240,jd)],[],13,[]⟩) al ⟨oB,trivial⟩ mixed Tryz.func209 rfl rfl (enters_of Tryz.func209 (by kernel_rfl) rfl) rfl (Nat.le_of_ble_eq_true rfl) rfl .no (fun d=>by kernel_rfl)
theorem xc:FOk Tryz.prog 175 pd:=fok (V:=⟨tt,[(207,mn),(208,pc),(209,Cg)],[],28,[]⟩) al ⟨sy,xb,JD,trivial⟩ mixed Tryz.func175 rfl rfl (enters_of Tryz.func175 (by kernel_rfl) rfl) rfl (Nat.le_of_ble_eq_true rfl) rfl .no (fun d=>by kernel_rfl)
theorem eQ:FOk Tryz.prog 176 bW:=fok (V:=⟨tt,[],[],19,[]⟩) al trivial mixed Tryz.func176 rfl rfl (enters_of Tryz.func176 (by kernel_rfl) rfl) rfl (Nat.le_of_ble_eq_true rfl) rfl (.two .no (.two (.two .no (.loop [.slot 8 (.num .i64)] .no)) .no)) (fun d=>by kernel_rfl)
theorem kY:FOk Tryz.prog 210 eY:=fok (V:=⟨tt,[],[],26,[]⟩) al trivial mixed Tryz.func210 rfl rfl (enters_of Tryz.func210 (by kernel_rfl) rfl) rfl (Nat.le_of_ble_eq_true rfl) rfl (.two .no (.two .no (.two (.two .no (.loop [.slot 13 (.num .i64)] .no)) .no))) (fun d=>by kernel_rfl)
theorem dx:FOk Tryz.prog 211 bC:=fok (V:=⟨tt,[],[],32,[]⟩) al trivial mixed Tryz.func211 rfl rfl (enters_of Tryz.func211 (by kernel_rfl) rfl) rfl (Nat.le_of_ble_eq_true rfl) rfl (.two .no (.two .no (.two (.two .no (.loop [.slot 17 (.num .i64)] .no)) .no))) (fun d=>by kernel_rfl)
theorem ri:FOk Tryz.prog 212 lK:=fok (V:=⟨tt,[(152,db)],[],8,[]⟩) al ⟨fX,trivial⟩ mixed Tryz.func212 rfl rfl (enters_of Tryz.func212 (by kernel_rfl) rfl) rfl (Nat.le_of_ble_eq_true rfl) rfl .no (fun d=>by kernel_rfl)
theorem na:FOk Tryz.prog 178 ju:=fok (V:=⟨tt,[(210,eY),(211,bC),(212,lK)],[],24,[]⟩) al ⟨kY,dx,ri,trivial⟩ mixed Tryz.func178 rfl rfl (enters_of Tryz.func178 (by kernel_rfl) rfl) rfl (Nat.le_of_ble_eq_true rfl) rfl .no (fun d=>by kernel_rfl)
theorem Ct:FOk Tryz.prog 177 uy:=fok (V:=⟨tt,[(178,ju)],[],7,[]⟩) al ⟨na,trivial⟩ mixed Tryz.func177 rfl rfl (enters_of Tryz.func177 (by kernel_rfl) rfl) rfl (Nat.le_of_ble_eq_true rfl) rfl .no (fun d=>by kernel_rfl)
theorem Cu:FOk Tryz.prog 179 uz:=fok (V:=⟨tt,[],[],8,[]⟩) al trivial mixed Tryz.func179 rfl rfl (enters_of Tryz.func179 (by kernel_rfl) rfl) rfl (Nat.le_of_ble_eq_true rfl) rfl .no (fun d=>by kernel_rfl)
theorem GZ:FOk Tryz.prog 140 yY:=fok (V:=⟨tt,[(102,hY),(175,pd),(176,bW),(177,uy),(179,uz)],[],80,[]⟩) al ⟨jv,xc,eQ,Ct,Cu,trivial⟩ mixed Tryz.func140 rfl rfl (enters_of Tryz.func140 (by kernel_rfl) rfl) rfl (Nat.le_of_ble_eq_true rfl) rfl (.two .no (.two .no (.two (.two .no (.loop [.slot 13 (.num .i64),.box 4 [(.own 92 y92),(.own 146 Cd)]] (.two .no (.two .no (.two (.two .no (.two .no (.two .no (.two .no (.join [.slot 9 (.num .i64),.box 4 [(.own 92 y92),(.own 146 Cd)],.gone 7] .no .no))))) .no))))) .no))) (fun d=>by kernel_rfl)
theorem bO:FOk Tryz.prog 180 aT:=fok (V:=⟨tt,[],[],32,[]⟩) al trivial mixed Tryz.func180 rfl rfl (enters_of Tryz.func180 (by kernel_rfl) rfl) rfl (Nat.le_of_ble_eq_true rfl) rfl (.two .no (.two .no (.two (.two .no (.loop [.slot 17 (.num .i64)] .no)) .no))) (fun d=>by kernel_rfl)
theorem bG:FOk Tryz.prog 181 aQ:=fok (V:=⟨tt,[],[],32,[]⟩) al trivial mixed Tryz.func181 rfl rfl (enters_of Tryz.func181 (by kernel_rfl) rfl) rfl (Nat.le_of_ble_eq_true rfl) rfl (.two .no (.two .no (.two (.two .no (.loop [.slot 17 (.num .i64)] .no)) .no))) (fun d=>by kernel_rfl)
theorem kj:FOk Tryz.prog 241 ed:=fok (V:=⟨tt,[],[],26,[]⟩) al trivial mixed Tryz.func241 rfl rfl (enters_of Tryz.func241 (by kernel_rfl) rfl) rfl (Nat.le_of_ble_eq_true rfl) rfl (.two .no (.two .no (.two (.two .no (.loop [.slot 13 (.num .i64)] .no)) .no))) (fun d=>by kernel_rfl)
end R
namespace R
open Go.RowKit
open D
theorem xY:FOk Tryz.prog 213 qx:=fok (V:=⟨tt,[(241,ed)],[],10,[]⟩) al ⟨kj,trivial⟩ mixed Tryz.func213 rfl rfl (enters_of Tryz.func213 (by kernel_rfl) rfl) rfl (Nat.le_of_ble_eq_true rfl) rfl .no (fun d=>by kernel_rfl)
theorem uQ:FOk Tryz.prog 182 od:=fok (V:=⟨tt,[(213,qx)],[],24,[]⟩) al ⟨xY,trivial⟩ mixed Tryz.func182 rfl rfl (enters_of Tryz.func182 (by kernel_rfl) rfl) rfl (Nat.le_of_ble_eq_true rfl) rfl .no (fun d=>by kernel_rfl)
theorem rj:FOk Tryz.prog 141 lL:=fok (V:=⟨tt,[(178,ju),(180,aT),(181,aQ),(182,od)],[],17,[]⟩) al ⟨na,bO,bG,uQ,trivial⟩ mixed Tryz.func141 rfl rfl (enters_of Tryz.func141 (by kernel_rfl) rfl) rfl (Nat.le_of_ble_eq_true rfl) rfl .no (fun d=>by kernel_rfl)
theorem rk:FOk Tryz.prog 100 lM:=fok (V:=⟨tt,[(140,yY),(141,lL)],[],17,[]⟩) al ⟨GZ,rj,trivial⟩ mixed Tryz.func100 rfl rfl (enters_of Tryz.func100 (by kernel_rfl) rfl) rfl (Nat.le_of_ble_eq_true rfl) rfl .no (fun d=>by kernel_rfl)
theorem uF:FOk Tryz.prog 142 pe:=fok (V:=⟨tt,[],[],6,[]⟩) al trivial mixed Tryz.func142 rfl rfl (enters_of Tryz.func142 (by kernel_rfl) rfl) rfl (Nat.le_of_ble_eq_true rfl) rfl .no (fun d=>by kernel_rfl)
theorem tJ:FOk Tryz.prog 101 mX:=fok (V:=⟨tt,[(142,pe)],[],29,[]⟩) al ⟨uF,trivial⟩ mixed Tryz.func101 rfl rfl (enters_of Tryz.func101 (by kernel_rfl) rfl) rfl (Nat.le_of_ble_eq_true rfl) rfl (.two .no (.two .no (.two (.two .no (.loop [.slot 16 (.num .i64),.box 3 [(.num .i64),(.own 4 y4),(.own 26 y26)]] .no)) .no))) (fun d=>by kernel_rfl)
theorem sB:FOk Tryz.prog 54 mq:=fok (V:=⟨tt,[(99,si),(100,lM),(101,mX)],[],29,[]⟩) al ⟨Am,rk,tJ,trivial⟩ mixed Tryz.func54 rfl rfl (enters_of Tryz.func54 (by kernel_rfl) rfl) rfl (Nat.le_of_ble_eq_true rfl) rfl .no (fun d=>by kernel_rfl)
theorem G0:FOk Tryz.prog 103 yZ:=fok (V:=⟨tt,[(102,hY)],[],27,[]⟩) al ⟨jv,trivial⟩ mixed Tryz.func103 rfl rfl (enters_of Tryz.func103 (by kernel_rfl) rfl) rfl (Nat.le_of_ble_eq_true rfl) rfl .no (fun d=>by kernel_rfl)
theorem ou:FOk Tryz.prog 55 kC:=fok (V:=⟨tt,[(102,hY),(103,yZ)],[],59,[]⟩) al ⟨jv,G0,trivial⟩ mixed Tryz.func55 rfl rfl (enters_of Tryz.func55 (by kernel_rfl) rfl) rfl (Nat.le_of_ble_eq_true rfl) rfl (.two .no (.two .no (.two (.two .no (.loop [.slot 14 (.num .i64)] .no)) (.two (.two .no (.loop [.slot 25 (.num .i64)] .no)) .no)))) (fun d=>by kernel_rfl)
theorem qi:FOk Tryz.prog 143 kJ:=fok (V:=⟨tt,[(102,hY)],[],52,[]⟩) al ⟨jv,trivial⟩ mixed Tryz.func143 rfl rfl (enters_of Tryz.func143 (by kernel_rfl) rfl) rfl (Nat.le_of_ble_eq_true rfl) rfl (.two .no (.two .no (.two .no (.two (.two .no (.loop [.slot 32 (.num .i64)] (.two .no (.two .no (.two (.two .no (.two (.two .no (.loop [.slot 38 (.num .i64)] .no)) .no)) .no))))) .no)))) (fun d=>by kernel_rfl)
theorem zf:FOk Tryz.prog 104 tC:=fok (V:=⟨tt,[(55,kC),(102,hY),(143,kJ)],[],29,[]⟩) al ⟨ou,jv,qi,trivial⟩ mixed Tryz.func104 rfl rfl (enters_of Tryz.func104 (by kernel_rfl) rfl) rfl (Nat.le_of_ble_eq_true rfl) rfl (.two .no (.two (.two .no (.loop [.slot 11 (.num .i64)] .no)) .no)) (fun d=>by kernel_rfl)
theorem G5:FOk Tryz.prog 183 y5:=fok (V:=⟨tt,[(214,cV)],[(34,.bool)],67,[]⟩) al ⟨fF,trivial⟩ mixed Tryz.func183 rfl rfl (enters_of Tryz.func183 (by kernel_rfl) rfl) rfl (Nat.le_of_ble_eq_true rfl) rfl (.two .no (.two .no (.two .no (.two (.two .no (.loop [.slot 6 (.own 3 (.int .i64)),.slot 18 (.num .i64),.row 5 3 y3] .no)) (.two (.loop [.slot 6 (.own 3 (.int .i64)),.row 5 3 y3] (.two .no (.two (.two .no (.loop [.slot 6 (.own 3 y3),.slot 42 (.num .i64),.row 5 3 y3] (.two .no (.two .no (.two (.at [.slot 6 (.own 3 y3),.row 5 3 y3] .no) .no))))) .no))) .no))))) (fun d=>by kernel_rfl)
theorem rl:FOk Tryz.prog 185 nO:=fok (V:=⟨tt,[],[],22,[]⟩) al trivial mixed Tryz.func185 rfl rfl (enters_of Tryz.func185 (by kernel_rfl) rfl) rfl (Nat.le_of_ble_eq_true rfl) rfl (.two .no (.two .no (.two (.two .no (.loop [.slot 3 (.own 3 y3),.slot 4 (.num .i64)] (.two .no (.join [.slot 3 (.own 3 y3)] .no .no)))) .no))) (fun d=>by kernel_rfl)
theorem JE:FOk Tryz.prog 243 Ci:=fok (V:=⟨tt,[],[],13,[]⟩) al trivial mixed Tryz.func243 rfl rfl (enters_of Tryz.func243 (by kernel_rfl) rfl) rfl (Nat.le_of_ble_eq_true rfl) rfl .no (fun d=>by kernel_rfl)
theorem MP:FOk Tryz.prog 215 FC:=fok (V:=⟨tt,[(243,Ci)],[],57,[]⟩) al ⟨JE,trivial⟩ mixed Tryz.func215 rfl rfl (enters_of Tryz.func215 (by kernel_rfl) rfl) rfl (Nat.le_of_ble_eq_true rfl) rfl (.two .no (.two .no (.two (.two .no (.loop [.slot 13 (.num .i64),.row 3 238 TE] .no)) .no))) (fun d=>by kernel_rfl)
theorem xd:FOk Tryz.prog 186 q8:=fok (V:=⟨tt,[(217,eX)],[],29,[]⟩) al ⟨iX,trivial⟩ mixed Tryz.func186 rfl rfl (enters_of Tryz.func186 (by kernel_rfl) rfl) rfl (Nat.le_of_ble_eq_true rfl) rfl (.two .no (.two .no (.two (.two .no (.loop [.slot 7 (.num .i64),.slot 8 (.num .i64)] .no)) .no))) (fun d=>by kernel_rfl)
theorem JF:FOk Tryz.prog 216 Cj:=fok (V:=⟨tt,[(185,nO),(186,q8),(217,eX)],[],45,[]⟩) al ⟨rl,xd,iX,trivial⟩ mixed Tryz.func216 rfl rfl (enters_of Tryz.func216 (by kernel_rfl) rfl) rfl (Nat.le_of_ble_eq_true rfl) rfl (.two .no (.two .no (.two (.two .no (.loop [.slot 9 (.num .i64),.slot 18 (.num .i64)] (.two .no (.two .no (.two (.two .no (.two .no (.loop [.slot 9 (.num .i64),.slot 28 (.num .i64)] (.two .no (.two .no (.join [.slot 9 (.num .i64)] .no .no)))))) .no))))) .no))) (fun d=>by kernel_rfl)
end R
namespace R
open Go.RowKit
open D
theorem uR:FOk Tryz.prog 184 oe:=fok (V:=⟨tt,[(185,nO),(215,FC),(216,Cj)],[],86,[]⟩) al ⟨rl,MP,JF,trivial⟩ mixed Tryz.func184 rfl rfl (enters_of Tryz.func184 (by kernel_rfl) rfl) rfl (Nat.le_of_ble_eq_true rfl) rfl (.two .no (.two .no (.two .no (.two (.two .no (.loop [.slot 26 (.num .i64),.row 6 26 y26] (.two .no (.two .no (.two (.two .no (.two .no (.loop [.slot 9 (.num .i64),.row 6 26 y26] (.two .no (.two (.two .no (.loop [.slot 38 (.num .i64),.row 6 26 y26] (.two .no (.two .no (.two (.two .no (.two .no (.loop [.slot 55 (.num .i64),.row 6 26 y26] .no))) .no))))) .no))))) .no))))) .no)))) (fun d=>by kernel_rfl)
theorem tK:FOk Tryz.prog 144 mY:=UN (V:=⟨tt,[(104,tC),(183,y5),(184,oe)],[(1000000,.raw)],26,[]⟩) al ⟨zf,G5,uR,trivial⟩ mixed Tryz.func144 rfl rfl (enters_of Tryz.func144 (by kernel_rfl) rfl) ⟨rfl,rfl⟩ (Nat.le_of_ble_eq_true rfl) rfl .no (fun d=>by kernel_rfl)
theorem Ao:FOk Tryz.prog 145 sk:=fok (V:=⟨tt,[(185,nO),(186,q8)],[],35,[]⟩) al ⟨rl,xd,trivial⟩ mixed Tryz.func145 rfl rfl (enters_of Tryz.func145 (by kernel_rfl) rfl) rfl (Nat.le_of_ble_eq_true rfl) rfl (.two .no (.two (.two .no (.loop [.slot 14 (.num .i64)] (.two .no (.two .no (.two (.two .no (.two .no (.loop [.slot 24 (.num .i64)] .no))) .no))))) .no)) (fun d=>by kernel_rfl)
theorem mF:FOk Tryz.prog 187 gr:=JA DP (enters_of Tryz.func187 (by kernel_rfl) rfl) 3
theorem kZ:FOk Tryz.prog 188 eZ:=fok (V:=⟨tt,[],[(28,.raw),(56,.raw),(59,.raw)],61,[]⟩) al trivial mixed Tryz.func188 rfl rfl (enters_of Tryz.func188 (by kernel_rfl) rfl) rfl (Nat.le_of_ble_eq_true rfl) rfl (.two .no (.two .no (.two (.two .no (.loop [.slot 3 (.num .i64)] (.two .no (.two (.two .no (.two (.two .no (.two (.two .no (.loop [.slot 3 (.num .i64),.slot 5 (.num .i64),.row 0 3 y3] (.two .no (.two (.at [.slot 3 (.num .i64),.row 0 3 y3] .no) .no)))) .no)) .no)) .no)))) .no))) (fun d=>by kernel_rfl)
theorem Ap:FOk Tryz.prog 146 sn:=fok (V:=⟨tt,[(142,pe),(187,gr),(188,eZ)],[],10,[]⟩) al ⟨uF,mF,kZ,trivial⟩ mixed Tryz.func146 rfl rfl (enters_of Tryz.func146 (by kernel_rfl) rfl) rfl (Nat.le_of_ble_eq_true rfl) rfl .no (fun d=>by kernel_rfl)
theorem xe:FOk Tryz.prog 105 pf:=fok (V:=⟨tt,[(144,mY),(145,sk),(146,sn)],[],51,[]⟩) al ⟨tK,Ao,Ap,trivial⟩ mixed Tryz.func105 rfl rfl (enters_of Tryz.func105 (by kernel_rfl) rfl) rfl (Nat.le_of_ble_eq_true rfl) rfl (.two .no (.two .no (.two .no (.two (.two .no (.loop [.slot 7 (.own 3 y3),.slot 20 (.num .i64)] (.two .no (.two .no (.two (.at [.slot 7 (.own 3 y3)] .no) .no))))) .no)))) (fun d=>by kernel_rfl)
theorem xZ:FOk Tryz.prog 56 qy:=fok (V:=⟨tt,[(104,tC),(105,pf)],[],38,[]⟩) al ⟨zf,xe,trivial⟩ mixed Tryz.func56 rfl rfl (enters_of Tryz.func56 (by kernel_rfl) rfl) rfl (Nat.le_of_ble_eq_true rfl) rfl (.two .no (.two .no (.two .no (.two (.two .no (.loop [.slot 5 (.own 103 MN),.slot 17 (.num .i64)] (.two .no (.two .no (.two (.two .no (.two .no (.loop [.slot 5 (.own 103 MN),.slot 25 (.num .i64)] .no))) .no))))) .no)))) (fun d=>by kernel_rfl)
theorem uS:FOk Tryz.prog 13 oh:=fok (V:=⟨tt,[(54,mq),(55,kC),(56,qy)],[],26,[]⟩) al ⟨sB,ou,xZ,trivial⟩ mixed Tryz.func13 rfl rfl (enters_of Tryz.func13 (by kernel_rfl) rfl) rfl (Nat.le_of_ble_eq_true rfl) rfl .no (fun d=>by kernel_rfl)
theorem G6:FOk Tryz.prog 57 y6:=fok (V:=⟨tt,[],[],15,[]⟩) al trivial mixed Tryz.func57 rfl rfl (enters_of Tryz.func57 (by kernel_rfl) rfl) rfl (Nat.le_of_ble_eq_true rfl) rfl .no (fun d=>by kernel_rfl)
theorem D6:FOk Tryz.prog 14 wR:=fok (V:=⟨tt,[(57,y6)],[],27,[]⟩) al ⟨G6,trivial⟩ mixed Tryz.func14 rfl rfl (enters_of Tryz.func14 (by kernel_rfl) rfl) rfl (Nat.le_of_ble_eq_true rfl) rfl (.two .no (.two .no (.two (.two .no (.loop [.slot 5 (.num .i64)] .no)) .no))) (fun d=>by kernel_rfl)
theorem D7:FOk Tryz.prog 147 wS:=fok (V:=⟨tt,[],[],26,[]⟩) al trivial mixed Tryz.func147 rfl rfl (enters_of Tryz.func147 (by kernel_rfl) rfl) rfl (Nat.le_of_ble_eq_true rfl) rfl (.two .no (.two .no (.two (.two .no (.loop [.slot 5 (.num .i64)] .no)) .no))) (fun d=>by kernel_rfl)
theorem zg:FOk Tryz.prog 60 tD:=fok (V:=⟨tt,[],[],26,[]⟩) al trivial mixed Tryz.func60 rfl rfl (enters_of Tryz.func60 (by kernel_rfl) rfl) rfl (Nat.le_of_ble_eq_true rfl) rfl (.two .no (.two .no (.two (.two .no (.loop [.slot 5 (.num .i64)] .no)) .no))) (fun d=>by kernel_rfl)
theorem D8:FOk Tryz.prog 148 wT:=fok (V:=⟨tt,[(60,tD)],[],27,[]⟩) al ⟨zg,trivial⟩ mixed Tryz.func148 rfl rfl (enters_of Tryz.func148 (by kernel_rfl) rfl) rfl (Nat.le_of_ble_eq_true rfl) rfl (.two .no (.two .no (.two (.two .no (.loop [.slot 5 (.num .i64)] .no)) .no))) (fun d=>by kernel_rfl)
theorem xf:FOk Tryz.prog 106 pg:=fok (V:=⟨tt,[(147,wS),(148,wT)],[],22,[]⟩) al ⟨D7,D8,trivial⟩ mixed Tryz.func106 rfl rfl (enters_of Tryz.func106 (by kernel_rfl) rfl) rfl (Nat.le_of_ble_eq_true rfl) rfl .no (fun d=>by kernel_rfl)
theorem uT:FOk Tryz.prog 58 oi:=fok (V:=⟨tt,[(106,pg)],[],27,[]⟩) al ⟨xf,trivial⟩ mixed Tryz.func58 rfl rfl (enters_of Tryz.func58 (by kernel_rfl) rfl) rfl (Nat.le_of_ble_eq_true rfl) rfl (.two .no (.two .no (.two (.two .no (.loop [.slot 5 (.num .i64)] .no)) .no))) (fun d=>by kernel_rfl)
theorem D9:FOk Tryz.prog 220 wU:=fok (V:=⟨tt,[],[],25,[]⟩) al trivial mixed Tryz.func220 rfl rfl (enters_of Tryz.func220 (by kernel_rfl) rfl) rfl (Nat.le_of_ble_eq_true rfl) rfl .no (fun d=>by kernel_rfl)
end R
namespace R
open Go.RowKit
open D
theorem Cv:FOk Tryz.prog 189 uA:=fok (V:=⟨tt,[(220,wU)],[],27,[]⟩) al ⟨D9,trivial⟩ mixed Tryz.func189 rfl rfl (enters_of Tryz.func189 (by kernel_rfl) rfl) rfl (Nat.le_of_ble_eq_true rfl) rfl (.two .no (.two .no (.two (.two .no (.loop [.slot 5 (.num .i64)] .no)) .no))) (fun d=>by kernel_rfl)
theorem G7:FOk Tryz.prog 149 y7:=fok (V:=⟨tt,[(189,uA)],[],11,[]⟩) al ⟨Cv,trivial⟩ mixed Tryz.func149 rfl rfl (enters_of Tryz.func149 (by kernel_rfl) rfl) rfl (Nat.le_of_ble_eq_true rfl) rfl .no (fun d=>by kernel_rfl)
theorem uU:FOk Tryz.prog 107 oj:=fok (V:=⟨tt,[(149,y7)],[],21,[]⟩) al ⟨G7,trivial⟩ mixed Tryz.func107 rfl rfl (enters_of Tryz.func107 (by kernel_rfl) rfl) rfl (Nat.le_of_ble_eq_true rfl) rfl .no (fun d=>by kernel_rfl)
theorem tL:FOk Tryz.prog 59 mZ:=fok (V:=⟨tt,[(107,oj)],[],27,[]⟩) al ⟨uU,trivial⟩ mixed Tryz.func59 rfl rfl (enters_of Tryz.func59 (by kernel_rfl) rfl) rfl (Nat.le_of_ble_eq_true rfl) rfl (.two .no (.two .no (.two (.two .no (.loop [.slot 5 (.num .i64)] .no)) .no))) (fun d=>by kernel_rfl)
theorem ya:FOk Tryz.prog 15 qz:=fok (V:=⟨tt,[(58,oi),(59,mZ)],[],17,[]⟩) al ⟨uT,tL,trivial⟩ mixed Tryz.func15 rfl rfl (enters_of Tryz.func15 (by kernel_rfl) rfl) rfl (Nat.le_of_ble_eq_true rfl) rfl .no (fun d=>by kernel_rfl)
theorem G8:FOk Tryz.prog 108 y8:=fok (V:=⟨tt,[],[],25,[]⟩) al trivial mixed Tryz.func108 rfl rfl (enters_of Tryz.func108 (by kernel_rfl) rfl) rfl (Nat.le_of_ble_eq_true rfl) rfl .no (fun d=>by kernel_rfl)
theorem Ea:FOk Tryz.prog 61 wV:=fok (V:=⟨tt,[(108,y8)],[],27,[]⟩) al ⟨G8,trivial⟩ mixed Tryz.func61 rfl rfl (enters_of Tryz.func61 (by kernel_rfl) rfl) rfl (Nat.le_of_ble_eq_true rfl) rfl (.two .no (.two .no (.two (.two .no (.loop [.slot 5 (.num .i64)] .no)) .no))) (fun d=>by kernel_rfl)
theorem Eb:FOk Tryz.prog 16 wW:=fok (V:=⟨tt,[(60,tD),(61,wV)],[],17,[]⟩) al ⟨zg,Ea,trivial⟩ mixed Tryz.func16 rfl rfl (enters_of Tryz.func16 (by kernel_rfl) rfl) rfl (Nat.le_of_ble_eq_true rfl) rfl .no (fun d=>by kernel_rfl)
theorem Aq:FOk Tryz.prog 109 so:=fok (V:=⟨tt,[],[],21,[]⟩) al trivial mixed Tryz.func109 rfl rfl (enters_of Tryz.func109 (by kernel_rfl) rfl) rfl (Nat.le_of_ble_eq_true rfl) rfl (.two .no (.two (.two .no (.loop [.par 0 [] 4 y4,.slot 1 (.num .i64),.slot 5 (.num .i64)] .no)) .no)) (fun d=>by kernel_rfl)
theorem uG:FOk Tryz.prog 64 ph:=fok (V:=⟨tt,[],[],19,[]⟩) al trivial mixed Tryz.func64 rfl rfl (enters_of Tryz.func64 (by kernel_rfl) rfl) rfl (Nat.le_of_ble_eq_true rfl) rfl (.two .no (.two (.two .no (.loop [.par 0 [] 3 y3,.slot 1 (.num .i64),.slot 5 (.num .i64)] .no)) .no)) (fun d=>by kernel_rfl)
theorem Ar:FOk Tryz.prog 110 sp:=fok (V:=⟨tt,[(64,ph)],[],19,[]⟩) al ⟨uG,trivial⟩ mixed Tryz.func110 rfl rfl (enters_of Tryz.func110 (by kernel_rfl) rfl) rfl (Nat.le_of_ble_eq_true rfl) rfl (.two .no (.two (.two .no (.loop [.par 0 [] 26 y26,.slot 1 (.num .i64),.slot 5 (.num .i64)] .no)) .no)) (fun d=>by kernel_rfl)
theorem sC:FOk Tryz.prog 62 mr:=fok (V:=⟨tt,[(109,so),(110,sp)],[],34,[]⟩) al ⟨Aq,Ar,trivial⟩ mixed Tryz.func62 rfl rfl (enters_of Tryz.func62 (by kernel_rfl) rfl) rfl (Nat.le_of_ble_eq_true rfl) rfl (.two .no (.two (.two .no (.loop [.par 0 [] 92 y92,.slot 1 (.num .i64),.slot 5 (.num .i64)] .no)) .no)) (fun d=>by kernel_rfl)
theorem yc:FOk Tryz.prog 111 qA:=fok (V:=⟨tt,[],[],41,[]⟩) al trivial mixed Tryz.func111 rfl rfl (enters_of Tryz.func111 (by kernel_rfl) rfl) rfl (Nat.le_of_ble_eq_true rfl) rfl (.two .no (.two (.two .no (.loop [.par 0 [] 188 uj,.slot 1 (.num .i64),.slot 5 (.num .i64)] .no)) .no)) (fun d=>by kernel_rfl)
theorem rp:FOk Tryz.prog 63 lN:=fok (V:=⟨tt,[(111,qA)],[],35,[]⟩) al ⟨yc,trivial⟩ mixed Tryz.func63 rfl rfl (enters_of Tryz.func63 (by kernel_rfl) rfl) rfl (Nat.le_of_ble_eq_true rfl) rfl (.two .no (.two (.two .no (.loop [.par 0 [] 146 Cd,.slot 1 (.num .i64),.slot 5 (.num .i64)] .no)) .no)) (fun d=>by kernel_rfl)
theorem uV:FOk Tryz.prog 17 om:=fok (V:=⟨tt,[(62,mr),(63,lN)],[],14,[]⟩) al ⟨sC,rp,trivial⟩ mixed Tryz.func17 rfl rfl (enters_of Tryz.func17 (by kernel_rfl) rfl) rfl (Nat.le_of_ble_eq_true rfl) rfl .no (fun d=>by kernel_rfl)
theorem As:FOk Tryz.prog 65 sq:=fok (V:=⟨tt,[],[],41,[]⟩) al trivial mixed Tryz.func65 rfl rfl (enters_of Tryz.func65 (by kernel_rfl) rfl) rfl (Nat.le_of_ble_eq_true rfl) rfl (.two .no (.two (.two .no (.loop [.par 0 [] 150 Hz,.slot 1 (.num .i64),.slot 5 (.num .i64)] .no)) .no)) (fun d=>by kernel_rfl)
theorem Au:FOk Tryz.prog 18 sr:=fok (V:=⟨tt,[(64,ph),(65,sq)],[],14,[]⟩) al ⟨uG,As,trivial⟩ mixed Tryz.func18 rfl rfl (enters_of Tryz.func18 (by kernel_rfl) rfl) rfl (Nat.le_of_ble_eq_true rfl) rfl .no (fun d=>by kernel_rfl)
end R
namespace R
open Go.RowKit
open D
theorem Av:FOk Tryz.prog 19 ss:=fok (V:=⟨tt,[],[],27,[]⟩) al trivial mixed Tryz.func19 rfl rfl (enters_of Tryz.func19 (by kernel_rfl) rfl) rfl (Nat.le_of_ble_eq_true rfl) rfl (.two .no (.two (.two .no (.loop [.par 0 [] 103 MN,.slot 1 (.num .i64),.slot 5 (.num .i64)] .no)) .no)) (fun d=>by kernel_rfl)
theorem Aw:FOk Tryz.prog 20 su:=fok (V:=⟨tt,[],[],31,[]⟩) al trivial mixed Tryz.func20 rfl rfl (enters_of Tryz.func20 (by kernel_rfl) rfl) rfl (Nat.le_of_ble_eq_true rfl) rfl (.two .no (.two (.two .no (.loop [.slot 1 (.num .i64),.slot 5 (.num .i64)] .no)) .no)) (fun d=>by kernel_rfl)
theorem nR:FOk Tryz.prog 3 nP:=fok (V:=⟨tt,[(8,qj),(9,wD),(10,n8),(11,qv),(12,wO),(13,oh),(14,wR),(15,qz),(16,wW),(17,om),(18,sr),(19,ss),(20,su)],[],124,[]⟩) al ⟨xN,DT,uN,xW,D3,uS,D6,ya,Eb,uV,Au,Av,Aw,trivial⟩ mixed Tryz.func3 rfl rfl (enters_of Tryz.func3 (by kernel_rfl) rfl) rfl (Nat.le_of_ble_eq_true rfl) rfl .no (fun d=>by kernel_rfl)
end R
namespace D
open Go.RowKit
theorem nS (x0:(List (Int×(List Bool)×(List (List Int))))×(List (Int×((List (Int×Int×Int×Int)))×Int))) (x1:(List Int)×(List (Int×Int×Int×Int))) (x2:Int) (r:Bool) (hm:cG x0 x1 x2=some r) {I:Hp} {w0:World} (v0_0:Value) (v0_1:Value) (v1_0:Value) (v1_1:Value) (r0_0:(ae 133 (aH bx (aH (ae 4 oE) (ae 26 (ae 3 bx))))).rd I [v0_0] x0.1) (r0_1:(ae 139 (aH bx (aH (ae 232 (aH bx (aH bx (aH bx bx)))) bx))).rd I [v0_1] x0.2) (r1_0:(ae 3 bx).rd I [v1_0] x1.1) (r1_1:(ae 156 (aH bx (aH bx (aH bx bx)))).rd I [v1_1] x1.2):Con Tryz.prog 3 #[.agg #[v0_0,v0_1],.agg #[v1_0,v1_1],.int .i64 x2] I w0 [] (fun v=>v= .bool r) (fun _=>[]):=fun w C hs =>
 ((R.nR).con w0 I [.agg #[v0_0,v0_1],.agg #[v1_0,v1_1],.int .i64 x2] (x0,(x1,(x2,()))) r ⟨_,_,rfl,⟨[v0_0,v0_1],rfl,⟨_,_,rfl,r0_0,r0_1⟩⟩,⟨_,_,rfl,⟨[v1_0,v1_1],rfl,⟨_,_,rfl,r1_0,r1_1⟩⟩,⟨_,_,rfl,⟨[.int .i64 x2],rfl,rfl⟩,rfl⟩⟩⟩ hm w C hs).mono fun e w' ⟨v,he,_,hst⟩=>by
  obtain ⟨h1,h2⟩:=R.rM (h1:=fun _=>rfl) (show St I w0 w' (Ch.own R.Ty.bool.rep [v] r::C) from hst)
  exact ⟨v,he,(List.cons.inj h1).1,h2⟩
end D
namespace D
open Go.RowKit
def I64 (n:Int):Prop:= -9223372036854775808≤n∧n≤9223372036854775807
class Data (α:Type) where
 lim:α→Prop
 sm:α→Prop
instance:Data Int:=⟨I64,fun _=>True⟩
instance:Data Bool:=⟨fun _=>True,fun _=>True⟩
instance:Data ByteArray:=⟨fun s=>s.size≤9223372036854775807,fun s=>s.size≤1048576⟩
instance {α β:Type} [Data α] [Data β] :Data (α×β):=⟨fun x=>Data.lim x.1∧Data.lim x.2,fun x=>Data.sm x.1∧Data.sm x.2⟩
instance {α:Type} [Data α] :Data (List α):=⟨fun xs=>xs.length≤9223372036854775807∧ ∀x,x∈xs→Data.lim x,fun xs=>xs.length≤1048576∧ ∀x,x∈xs→Data.sm x⟩
structure Opens (P:Program) (t:TypeId) {α:Type} [Data α] (R:Rep α):Prop where
 out: ∀ {H:Type} (enc:TypeId×Value→H) (w:World) (fuel:Nat) (cs:List Value) (x:DataW H×List MemPlace),DataW.trod enc P w 0 (fun _=>true) true fuel t cs=some x→ ∃a:α,R.rd (hp w) cs a∧Data.lim a
theorem JG {P:Program} {t:TypeId} (h:P.underlying t=some (.int .i64)):Opens P t bx:=by
 constructor
 intro H enc w fuel cs x hx
 obtain ⟨n,rfl,-,hw⟩:=DataW.trod_int h hx
 refine ⟨n,rfl,show I64 n from ?_⟩
 simp[Lit.wf,IntKind.min,IntKind.max,IntKind.signed,IntKind.bits] at hw
 unfold I64
 omega
theorem G9 {P:Program} {t:TypeId} (h:P.underlying t=some .bool):Opens P t oE:=by
 constructor
 intro H enc w fuel cs x hx
 obtain ⟨n,rfl,-⟩:=DataW.trod_bool h hx
 exact ⟨n,rfl,trivial⟩
theorem gQ {P:Program} {t e:TypeId} {α:Type} [Data α] {R:Rep α} {E:TypeId} (h:P.underlying t=some (.slice e)) (hc:P.cellsOf e=R.size) (h0:0<R.size) (he:Opens P e R):Opens P t (ae E R):=by
 constructor
 intro H enc w fuel cs x hx
 rcases Go.Deep.open_slice h hx with ⟨rfl,-⟩ | ⟨a,len,cap,m,n,D,Pl,rfl,-,hl,hm,hmm,-,hel⟩
 ·exact ⟨[],⟨none,0,rfl,by simp,.inl rfl⟩,Nat.zero_le _,fun x hx=>by cases hx⟩
 have hlm:m=cap:=by simpa using hmm
 subst hlm
 rw[hc] at hel
 by_cases hz:len=0
 ·subst hz
  exact ⟨[],⟨some a,m,rfl,by simp,.inl rfl⟩,Nat.zero_le _,fun x hx=>by cases hx⟩
 ·have hone: ∀i,i<len→ ∃c:List Value,∃y:α,c.length=R.size∧(∀j,j<R.size→w.cell? ((a.add (i*R.size)).add j)=c[j]?)∧R.rd (hp w) c y∧Data.lim y:=by
   intro i hi
   obtain ⟨c,h1,h2⟩:=hel i (by omega)
   obtain ⟨-,h3,h4⟩:=World.cells?_some h1
   obtain ⟨y,hy⟩:=he.out enc w _ _ _ h2
   exact ⟨c,y,h3,h4,hy⟩
  obtain ⟨c0,y0,hc0,hr0,-⟩:=hone 0 (by omega)
  have h00:=hr0 0 h0
  have hsome: ∃v,c0[0]? =some v:=⟨_,List.getElem?_eq_getElem (by omega)⟩
  obtain ⟨v,hv⟩:=hsome
  rw[hv] at h00
  have ha:(a.add (0*R.size)).add 0=a:=by simp[Addr.add]
  rw[ha] at h00
  obtain ⟨b,off,spot⟩:=a
  have hb: ∃ccs T fr,w.heap[b]? =some (.cells ccs T fr)∧spot=none:=by
   simp only[World.cell?] at h00
   split at h00
   ·rename_i ccs T fr heq
    cases spot with
    | none=>exact ⟨ccs,T,fr,heq,rfl⟩
    | some s=>simp at h00
   ·simp at h00
  obtain ⟨ccs,T,fr,hh,rfl⟩:=hb
  have hadd: ∀i j,(Addr.add ⟨b,off,none⟩ i).add j=⟨b,off+i+j,none⟩:=by
   intro i j
   by_cases h1:i=0 <;> by_cases h2:j=0 <;> simp[Addr.add,h1,h2,Nat.add_assoc]
  haveI:Inhabited α:=⟨y0⟩
  obtain ⟨X,hX⟩:=Go.Deep.choose_lt (α:=α) (n:=len) (p:=fun i y=> ∃c:List Value,c.length=R.size∧(∀j,j<R.size→ccs.toList[off+i*R.size+j]? =c[j]?)∧R.rd (hp w) c y∧Data.lim y) (fun i hi=>by
   obtain ⟨c,y,h1,h2,h3⟩:=hone i hi
   refine ⟨y,c,h1,fun j hj=>?_,h3⟩
   have:=h2 j hj
   rw[hadd] at this
   simp only[World.cell?,hh] at this
   simpa using this)
  have hlen:((List.range len).map X).length=len:=by simp
  have hel2: ∀i y,((List.range len).map X)[i]? =some y→i<len∧y=X i:=fun i y hy=>by
   have hi:i<len:=by have:=(List.getElem?_eq_some_iff.1 hy).1;omega
   exact ⟨hi,by simpa [hi] using hy.symm⟩
  refine ⟨(List.range len).map X,⟨some ⟨b,off,none⟩,m,by rw[hlen],by rw[hlen];unfold maxLen at hm;unfold lim;omega,.inr ⟨b,off,ccs,T,fr,rfl,hh,fun i y hy=>?_⟩⟩,by rw[hlen];unfold maxLen at hm;omega,fun y hy=>?_⟩
  ·obtain ⟨hi,rfl⟩:=hel2 i y hy
   obtain ⟨c,e1,e2,e3,-⟩:=hX i hi
   exact ⟨c,e1,e2,e3⟩
  ·obtain ⟨i,hi,he⟩:=List.mem_iff_getElem?.1 hy |>.imp fun i hi=>hel2 i y hi
   obtain ⟨-,-,-,-,e4⟩:=hX i hi
   rw[he];exact e4
structure OpensFs (P:Program) (fs:List Field) (o:Nat) {α:Type} [Data α] (R:Rep α):Prop where
 out: ∀ {H:Type} (enc:TypeId×Value→H) (w:World) (fuel:Nat) (cs:List Value),cs.length=o+R.size→
  (∀f∈fs,∃x,DataW.trod enc P w 0 (fun _=>true) true fuel f.type ((cs.drop f.offset).take (P.cellsOf f.type))=some x)→ ∃a:α,R.rd (hp w) (cs.drop o) a∧Data.lim a
theorem jw {P:Program} {f:Field} {o:Nat} {α:Type} [Data α] {R:Rep α} (ho:f.offset=o) (hc:P.cellsOf f.type=R.size) (h:Opens P f.type R):OpensFs P [f] o R:=by
 constructor
 intro H enc w fuel cs hl hx
 obtain ⟨x,hx⟩:=hx f (by simp)
 rw[ho,hc,List.take_of_length_le (by rw[List.length_drop];omega)] at hx
 exact h.out enc w _ _ _ hx
theorem di {P:Program} {f:Field} {fs:List Field} {o:Nat} {α β:Type} [Data α] [Data β] {R:Rep α} {S:Rep β} (ho:f.offset=o) (hc:P.cellsOf f.type=R.size) (h:Opens P f.type R) (hs:OpensFs P fs (o+R.size) S):OpensFs P (f::fs) o (aH R S):=by
 constructor
 intro H enc w fuel cs hl hx
 have hl':cs.length=o+(R.size+S.size):=hl
 obtain ⟨b,hb,hlb⟩:=hs.out enc w fuel cs (by omega) (fun g hg=>hx g (by simp[hg]))
 obtain ⟨x,hx⟩:=hx f (by simp)
 rw[ho,hc] at hx
 obtain ⟨a,ha,hla⟩:=h.out enc w _ _ _ hx
 refine ⟨(a,b),⟨(cs.drop o).take R.size,cs.drop (o+R.size),?_,ha,hb⟩,hla,hlb⟩
 rw[←List.drop_drop,List.take_append_drop]
theorem fG {P:Program} {t:TypeId} {fs:Array Field} {α:Type} [Data α] {R:Rep α} (h:P.underlying t=some (.struct fs)) (hc:P.cellsOf t=R.size) (hf:OpensFs P fs.toList 0 R):Opens P t R:=by
 constructor
 intro H enc w fuel cs x hx
 obtain ⟨xs,n,-,-,hl,hn,hel⟩:=DataW.trod_struct h hx
 have:=hf.out enc w n cs (by omega) (fun f hm=>by
  obtain ⟨i,hi,rfl⟩:=List.getElem_of_mem hm
  have h1:fs[i]? =some fs.toList[i]:=by simp
  exact ⟨_,(hel i _ h1).trans (List.getElem?_eq_getElem (by simp at hi;omega))⟩)
 simpa using this
theorem St.below {w0 w:World} {cs:List Ch} (h:St (hp w0) w0 w cs):Below w0.heap.size w0 w:=by
 obtain ⟨⟨h1,h2,h3,h4⟩,h5,-⟩:=h
 refine ⟨h1,h2,h3,h4,fun b hb=>?_⟩
 have e:w0.heap[b]? =some w0.heap[b]:=Array.getElem?_eq_getElem hb
 rw[e];exact h5 b _ e
end D
namespace D
open Go.RowKit
theorem cH {n:Int} (h1: -9223372036854775808≤n) (h2:n≤9223372036854775807):IntKind.i64.wrap n=n:=by
 simp only[IntKind.wrap,IntKind.bits,IntKind.signed,Bool.true_and]
 split <;> rename_i h <;> simp at h <;> omega
theorem aa {i:Nat} (h:i<9223372036854775807):IntKind.i64.wrap ((i:Int)+1)=((i+1:Nat):Int):=by
 rw[cH (by omega) (by omega)];rfl
theorem aq {α:Type} {xs:List α} {i:Nat} (h:i<xs.length):az xs (i:Int)=some (xs[i]):=by
 unfold az
 rw[if_pos (Int.natCast_nonneg _)]
 simp[h]
theorem bS {i n:Nat} (h:i<n):decide ((i:Int)<(n:Int))=true:=by simp[h]
theorem bm {n:Nat} :decide ((n:Int)<(n:Int))=false:=by simp
theorem ox (k:Nat) (h:k≤9223372036854775807):k<aD:=by unfold aD;omega
theorem uH {α:Type} {b n:Nat} {z:α} (h:n*b≤140737488355328):mkI b (n:Int) z=some (List.replicate n z):=by
 unfold mkI
 rw[if_pos ⟨Int.natCast_nonneg _,by simpa using h⟩];simp
theorem Cw {R S:Type} {f:S→Option (Out R S)} (inv:Nat→S) (N:Nat) (h: ∀i,i<N→f (inv i)=some (.nxt (inv (i+1)))): ∀(m i k:Nat),i+m=N→ai f (k+m) (inv i)=ai f k (inv N)
 | 0,i,k,e=>by rw[show i=N by omega];rfl
 | m+1,i,k,e=>by
  rw[←Nat.add_assoc,ai,h i (by omega)]
  exact Cw inv N h m (i+1) k (by omega)
theorem Cx {R S:Type} {f:S→Option (Out R S)} (inv:Nat→S) (N:Nat) {s:S} (h: ∀i,i<N→f (inv i)=some (.nxt (inv (i+1)))) (he:f (inv N)=some (.brk s)) (hN:N<aD):ai f aD (inv 0)=some (.brk s):=by
 have e:aD=(aD - N - 1)+1+N:=by omega
 rw[e,Cw inv N h N 0 _ (by omega),ai,he]
theorem toL {R α:Type} {f:List α×Int→Option (Out R (List α×Int))} {z:α} (xs:List α) (hN:xs.length≤9223372036854775807)
  (hstep: ∀ys i (h:i<xs.length),ys.length=xs.length→f (ys,(i:Int))=some (.nxt (ys.set i xs[i],((i+1:Nat):Int)))) (hend: ∀ys,ys.length=xs.length→f (ys,(xs.length:Int))=some (.brk (ys,(xs.length:Int)))) :
  ai f aD (List.replicate xs.length z,0)=some (.brk (xs,(xs.length:Int))):=by
 have h0:(List.replicate xs.length z,(0:Int))=(fun i:Nat=>(xs.take i++(List.replicate xs.length z).drop i,(i:Int))) 0:=by simp
 rw[h0]
 refine Cx (fun i:Nat=>(xs.take i++(List.replicate xs.length z).drop i,(i:Int))) xs.length (fun i hi=>?_) ?_ (ox _ hN)
 ·have hl:(xs.take i++(List.replicate xs.length z).drop i).length=xs.length:=by
   rw[List.length_append,List.length_take,List.length_drop,List.length_replicate];omega
  rw[hstep _ i hi hl]
  congr 3
  have ht:(xs.take i).length=i:=by rw[List.length_take];omega
  rw[List.set_append_right _ _ (by omega),ht,Nat.sub_self,List.drop_eq_getElem_cons (by rw[List.length_replicate];exact hi),List.set_cons_zero,List.take_succ_eq_append_getElem hi,List.append_assoc]
  rfl
 ·have:=hend xs rfl
  rw[List.take_of_length_le (Nat.le_refl _),List.drop_of_length_le (by rw[List.length_replicate];exact Nat.le_refl _),List.append_nil]
  exact this
def HA {α:Type} [Data α] (m:α→Int→Option Int):Prop:= ∀x l,Data.lim x→0≤l→l≤1048576→ ∃r,m x l=some r∧(r<0∨(0≤r∧r≤l∧Data.sm x))
def FD {α:Type} [Data α] (m:α→Option α):Prop:= ∀x,Data.sm x→m x=some x
def CZ {α:Type} [Data α] [DecidableEq α] (m:α→α→Option Bool):Prop:= ∀x y,Data.sm x→Data.sm y→m x y=some (decide (x=y))
theorem UA {α:Type} [Data α] {f:Int×Int→Option (Out Int (Int×Int))} (xs:List α)
  (hstep: ∀i (h:i<xs.length) l,0≤l→l≤1048576→ ∃r,f (l,(i:Int))=some (if r<0 then .ret (-1) else .nxt (r,((i+1:Nat):Int)))∧(r<0∨(0≤r∧r≤l∧Data.sm xs[i])))
  (hend: ∀l,f (l,(xs.length:Int))=some (.brk (l,(xs.length:Int)))): ∀(m i k:Nat) (l:Int),i+m=xs.length→m<k→0≤l→l≤1048576→
   ai f k (l,(i:Int))=some (.ret (-1))∨ ∃r,ai f k (l,(i:Int))=some (.brk (r,(xs.length:Int)))∧0≤r∧r≤l∧ ∀j (h:j<xs.length),i≤j→Data.sm xs[j]
 | 0,i,k,l,e,hk,h0,h1=>by
  obtain ⟨k,rfl⟩: ∃q,k=q+1:=⟨k - 1,by omega⟩
  obtain rfl:i=xs.length:=by omega
  exact .inr ⟨l,by rw[ai,hend],h0,Int.le_refl _,fun j hj hi=>by omega⟩
 | m+1,i,k,l,e,hk,h0,h1=>by
  obtain ⟨k,rfl⟩: ∃q,k=q+1:=⟨k - 1,by omega⟩
  obtain ⟨r,e1,e2⟩:=hstep i (by omega) l h0 h1
  rw[ai,e1]
  rcases e2 with e2 | ⟨e2,e3,e4⟩
  ·rw[if_pos e2];exact .inl rfl
  ·rw[if_neg (by omega)]
   rcases UA xs hstep hend m (i+1) k r (by omega) (by omega) e2 (by omega) with h | ⟨q,g1,g2,g3,g4⟩
   ·exact .inl h
   ·refine .inr ⟨q,g1,g2,by omega,fun j hj hi=>?_⟩
    by_cases hji:j=i
    ·subst hji;exact e4
    ·exact g4 j hj (by omega)
theorem szL {α:Type} [Data α] {f:Int×Int→Option (Out Int (Int×Int))} (xs:List α) {l:Int} (hN:xs.length≤9223372036854775807)
  (hstep: ∀i (h:i<xs.length) l,0≤l→l≤1048576→ ∃r,f (l,(i:Int))=some (if r<0 then .ret (-1) else .nxt (r,((i+1:Nat):Int)))∧(r<0∨(0≤r∧r≤l∧Data.sm xs[i])))
  (hend: ∀l,f (l,(xs.length:Int))=some (.brk (l,(xs.length:Int)))) (h0:0≤l) (h1:l≤1048576) :
  ∃r,(if decide (IntKind.i64.wrap (l - (xs.length:Int))<0) then (some (-1)) else (ay (ai f aD (IntKind.i64.wrap (l - (xs.length:Int)),0)) (fun r=>some r) (fun s4=>some s4.1)))=some r∧(r<0∨(0≤r∧r≤l∧Data.sm xs)):=by
 rw[cH (by omega) (by omega)]
 by_cases h:l - (xs.length:Int)<0
 ·exact ⟨-1,by rw[if_pos (decide_eq_true h)],.inl (by decide)⟩
 ·rw[if_neg (by simpa using h)]
  rcases UA xs hstep hend xs.length 0 aD (l - xs.length) (by omega) (ox _ hN) (by omega) (by omega) with e | ⟨r,e,g1,g2,g3⟩
  ·exact ⟨-1,by rw[show ((0:Int))=((0:Nat):Int) from rfl,e];rfl,.inl (by decide)⟩
  ·refine ⟨r,by rw[show ((0:Int))=((0:Nat):Int) from rfl,e];rfl,.inr ⟨g1,by omega,by omega,fun x hx=>?_⟩⟩
   obtain ⟨j,hj,rfl⟩:=List.getElem_of_mem hx
   exact g3 j hj (Nat.zero_le _)
theorem szF {α:Type} [Data α] (xs:List α) {l:Int} (hN:xs.length≤9223372036854775807) (hf: ∀x:α,Data.sm x) (h0:0≤l) (h1:l≤1048576) :
  ∃r,(if decide (IntKind.i64.wrap (l - (xs.length:Int))<0) then (some (-1)) else (some (IntKind.i64.wrap (l - (xs.length:Int)))))=some r∧(r<0∨(0≤r∧r≤l∧Data.sm xs)):=by
 rw[cH (by omega) (by omega)]
 by_cases h:l - (xs.length:Int)<0
 ·exact ⟨-1,by rw[if_pos (decide_eq_true h)],.inl (by decide)⟩
 ·exact ⟨_,by rw[if_neg (by simpa using h)],.inr ⟨by omega,by omega,by omega,fun x _=>hf x⟩⟩
theorem TH {α:Type} [DecidableEq α] {f:Int→Option (Out Bool Int)} (xs ys:List α) (hl:xs.length=ys.length)
  (hstep: ∀i (h:i<xs.length) (h':i<ys.length),f (i:Int)=some (if xs[i] =ys[i] then .nxt ((i+1:Nat):Int) else .ret false)) (hend:f (xs.length:Int)=some (.brk (xs.length:Int))): ∀(m i k:Nat),i+m=xs.length→m<k→
   ai f k (i:Int)=some (if xs.drop i=ys.drop i then .brk (xs.length:Int) else .ret false)
 | 0,i,k,e,hk=>by
  obtain ⟨k,rfl⟩: ∃q,k=q+1:=⟨k - 1,by omega⟩
  obtain rfl:i=xs.length:=by omega
  rw[ai,hend,List.drop_of_length_le (Nat.le_refl _),List.drop_of_length_le (by omega),if_pos rfl]
 | m+1,i,k,e,hk=>by
  obtain ⟨k,rfl⟩: ∃q,k=q+1:=⟨k - 1,by omega⟩
  have hi:i<xs.length:=by omega
  have hi':i<ys.length:=by omega
  have d1:=List.drop_eq_getElem_cons hi
  have d2:=List.drop_eq_getElem_cons hi'
  rw[ai,hstep i hi hi',d1,d2]
  by_cases h:xs[i] =ys[i]
  ·rw[if_pos h]
   simp only
   rw[TH xs ys hl hstep hend m (i+1) k (by omega) (by omega)]
   simp only[List.cons.injEq,h,true_and]
  ·rw[if_neg h]
   simp only[List.cons.injEq,h,false_and,if_false]
theorem eqL {α:Type} [DecidableEq α] {f:Int→Option (Out Bool Int)} (xs ys:List α) (hN:xs.length≤9223372036854775807)
  (hstep: ∀i (h:i<xs.length) (h':i<ys.length),f (i:Int)=some (if xs[i] =ys[i] then .nxt ((i+1:Nat):Int) else .ret false)) (hend:f (xs.length:Int)=some (.brk (xs.length:Int))) :
  (if (xs.length:Int) !=(ys.length:Int) then (some false) else (ay (ai f aD 0) (fun r=>some r) (fun s4=>some true)))=some (decide (xs=ys)):=by
 by_cases hl:xs.length=ys.length
 ·rw[if_neg (by rw[hl];simp),show ((0:Int))=((0:Nat):Int) from rfl,TH xs ys hl hstep hend xs.length 0 aD (by omega) (ox _ hN)]
  by_cases h:xs=ys
  ·subst h;simp[ay]
  ·simp[ay,h]
 ·have:xs≠ys:=fun e=>hl (by rw[e])
  rw[if_pos (by simp;omega)];simp[this]
theorem e7 {α:Type} {c d:Prop} [Decidable c] [Decidable d] {a b:α} (h:c↔d):(if c then some a else some b)=some (if d then a else b):=by
 by_cases k:c
 ·rw[if_pos k,if_pos (h.1 k)]
 ·rw[if_neg k,if_neg (fun e=>k (h.2 e))]
theorem pq {α:Type} {c d:Prop} [Decidable c] [Decidable d] {a b:α} (h:c↔ ¬d):(if c then some b else some a)=some (if d then a else b):=by
 by_cases k:d
 ·rw[if_neg (fun e=>h.1 e k),if_pos k]
 ·rw[if_pos (h.2 k),if_neg k]
theorem eqB {α:Type} [DecidableEq α] {f:Int→Option (Out Bool Int)} {K:Option Bool} (xs ys:List α) (hN:xs.length≤9223372036854775807) (hl:xs.length=ys.length)
  (hstep: ∀i (h:i<xs.length) (h':i<ys.length),f (i:Int)=some (if xs[i] =ys[i] then .nxt ((i+1:Nat):Int) else .ret false)) (hend:f (xs.length:Int)=some (.brk (xs.length:Int))) :
  ay (ai f aD 0) (fun r=>some r) (fun s4=>K)=(if xs=ys then K else some false):=by
 rw[show ((0:Int))=((0:Nat):Int) from rfl,TH xs ys hl hstep hend xs.length 0 aD (by omega) (ox _ hN)]
 by_cases h:xs=ys
 ·subst h;simp[ay]
 ·simp[ay,h]
theorem R4 {f:Int→Option (Out Int Int)} (xs ys:List Int)
  (hstep: ∀i (h:i<xs.length) (h':i<ys.length),f (i:Int)=some (if xs[i] < ys[i] then .ret (-1) else if xs[i] > ys[i] then .ret 1 else .nxt ((i+1:Nat):Int))) (hend: ∀i,xs.length≤i∨ys.length≤i→f (i:Int)=some (.brk (i:Int))): ∀(m i k:Nat),i+m=xs.length→m<k→
   (∃r,ai f k (i:Int)=some (.ret r)∧r≠0∧xs≠ys)∨ ∃s,ai f k (i:Int)=some (.brk s)∧(xs.length=ys.length→xs.drop i=ys.drop i)
 | 0,i,k,e,hk=>by
  obtain ⟨k,rfl⟩: ∃q,k=q+1:=⟨k - 1,by omega⟩
  exact .inr ⟨_,by rw[ai,hend i (.inl (by omega))],fun h=>by rw[List.drop_of_length_le (by omega),List.drop_of_length_le (by omega)]⟩
 | m+1,i,k,e,hk=>by
  obtain ⟨k,rfl⟩: ∃q,k=q+1:=⟨k - 1,by omega⟩
  have hi:i<xs.length:=by omega
  by_cases hi':i<ys.length
  ·have hne: ∀h:xs[i] ≠ys[i],xs≠ys:=fun h e=>h (by subst e;rfl)
   rw[ai,hstep i hi hi']
   by_cases h1:xs[i] < ys[i]
   ·rw[if_pos h1];exact .inl ⟨-1,rfl,by decide,hne (by omega)⟩
   ·rw[if_neg h1]
    by_cases h2:xs[i] > ys[i]
    ·rw[if_pos h2];exact .inl ⟨1,rfl,by decide,hne (by omega)⟩
    ·rw[if_neg h2]
     rcases R4 xs ys hstep hend m (i+1) k (by omega) (by omega) with h | ⟨s,g1,g2⟩
     ·exact .inl h
     ·refine .inr ⟨s,g1,fun hl=>?_⟩
      have h3:xs[i] =ys[i]:=by omega
      rw[List.drop_eq_getElem_cons hi,List.drop_eq_getElem_cons hi',g2 hl,h3]
  ·exact .inr ⟨_,by rw[ai,hend i (.inr (by omega))],fun h=>by omega⟩
instance:LawfulBEq ByteArray where
 eq_of_beq {a b} h:=ByteArray.ext (eq_of_beq (show (a.data==b.data)=true from h))
 rfl {a}:=beq_self_eq_true a.data
theorem UB {α β γ δ:Type} {a b:α×β×γ×δ} :(a.1=b.1∧a.2.1=b.2.1∧a.2.2.1=b.2.2.1∧a.2.2.2=b.2.2.2)↔a=b:=by rw[Prod.ext_iff,Prod.ext_iff,Prod.ext_iff]
theorem fb {α β:Type} (p:α×β):(p.1,p.2)=p:=rfl
theorem aB {α:Type} [Data α] {xs:List α} (h:Data.sm xs):xs.length≤1048576∧ ∀x,x∈xs→Data.sm x:=h
theorem fT {α:Type} [Data α] {xs:List α} (h:Data.lim xs):xs.length≤9223372036854775807∧ ∀x,x∈xs→Data.lim x:=h
end D
set_option synthInstance.maxSize 20000
set_option synthInstance.maxHeartbeats 2000000
namespace D
open Go.RowKit
theorem JH:HA qQ:=fun xs l hl h0 h1=>szF xs (fT hl).1 (fun _=>trivial) h0 h1
theorem FE:HA pO:=fun xs l hl h0 h1=>szF xs (fT hl).1 (fun _=>trivial) h0 h1
theorem JI:HA qR:=fun xs l hl h0 h1=>szL (f:=jD xs) xs (fT hl).1 (fun i h l k0 k1=>by
 obtain ⟨r,e,hr⟩:=FE xs[i] l ((fT hl).2 _ (List.getElem_mem h)) k0 k1
 refine ⟨r,?_,hr⟩
 simp only[jD,bS h,if_true,aq h,Option.bind_some,fb,e,aa (show i<9223372036854775807 by have:=(fT hl).1;omega)]
 exact e7 (by simp)) (fun l=>by simp only[jD,bm];rfl) h0 h1
theorem Ax:HA iE:=by
 intro x l hl h0 h1
 unfold iE
 try simp only[fb]
 obtain ⟨r1,e1,k1⟩:=JH x.2.1 l hl.2.1 (by omega) (by omega)
 rw[e1];simp only[Option.bind_some]
 rcases k1 with k1 | ⟨k1,j1,s1⟩
 ·exact ⟨-1,by rw[if_pos (decide_eq_true k1)],.inl (by decide)⟩
 rw[if_neg (by simpa using k1)]
 obtain ⟨r2,e2,k2⟩:=JI x.2.2 r1 hl.2.2 (by omega) (by omega)
 rw[e2];simp only[Option.bind_some]
 rcases k2 with k2 | ⟨k2,j2,s2⟩
 ·exact ⟨-1,by rw[if_pos (decide_eq_true k2)],.inl (by decide)⟩
 rw[if_neg (by simpa using k2)]
 exact ⟨_,rfl,.inr ⟨by omega,by omega,⟨trivial,s1,s2⟩⟩⟩
theorem yd:HA ku:=fun xs l hl h0 h1=>szL (f:=eh xs) xs (fT hl).1 (fun i h l k0 k1=>by
 obtain ⟨r,e,hr⟩:=Ax xs[i] l ((fT hl).2 _ (List.getElem_mem h)) k0 k1
 refine ⟨r,?_,hr⟩
 simp only[eh,bS h,if_true,aq h,Option.bind_some,fb,e,aa (show i<9223372036854775807 by have:=(fT hl).1;omega)]
 exact e7 (by simp)) (fun l=>by simp only[eh,bm];rfl) h0 h1
theorem Ha:HA oV:=fun xs l hl h0 h1=>szF xs (fT hl).1 (fun _=>⟨trivial,trivial,trivial,trivial⟩) h0 h1
theorem MQ:HA pP:=by
 intro x l hl h0 h1
 unfold pP
 try simp only[fb]
 obtain ⟨r1,e1,k1⟩:=Ha x l hl (by omega) (by omega)
 rw[e1];simp only[Option.bind_some]
 rcases k1 with k1 | ⟨k1,j1,s1⟩
 ·exact ⟨-1,by rw[if_pos (decide_eq_true k1)],.inl (by decide)⟩
 rw[if_neg (by simpa using k1)]
 exact ⟨_,rfl,.inr ⟨by omega,by omega,s1⟩⟩
theorem ye:HA gx:=by
 intro x l hl h0 h1
 unfold gx
 try simp only[fb]
 obtain ⟨r1,e1,k1⟩:=MQ x.2.1 l hl.2.1 (by omega) (by omega)
 rw[e1];simp only[Option.bind_some]
 rcases k1 with k1 | ⟨k1,j1,s1⟩
 ·exact ⟨-1,by rw[if_pos (decide_eq_true k1)],.inl (by decide)⟩
 rw[if_neg (by simpa using k1)]
 exact ⟨_,rfl,.inr ⟨by omega,by omega,⟨trivial,s1,trivial⟩⟩⟩
theorem xg:HA ji:=fun xs l hl h0 h1=>szL (f:=dH xs) xs (fT hl).1 (fun i h l k0 k1=>by
 obtain ⟨r,e,hr⟩:=ye xs[i] l ((fT hl).2 _ (List.getElem_mem h)) k0 k1
 refine ⟨r,?_,hr⟩
 simp only[dH,bS h,if_true,aq h,Option.bind_some,fb,e,aa (show i<9223372036854775807 by have:=(fT hl).1;omega)]
 exact e7 (by simp)) (fun l=>by simp only[dH,bm];rfl) h0 h1
theorem Cy:HA jE:=by
 intro x l hl h0 h1
 unfold jE
 try simp only[fb]
 obtain ⟨r1,e1,k1⟩:=yd x.1 l hl.1 (by omega) (by omega)
 rw[e1];simp only[Option.bind_some]
 rcases k1 with k1 | ⟨k1,j1,s1⟩
 ·exact ⟨-1,by rw[if_pos (decide_eq_true k1)],.inl (by decide)⟩
 rw[if_neg (by simpa using k1)]
 obtain ⟨r2,e2,k2⟩:=xg x.2 r1 hl.2 (by omega) (by omega)
 rw[e2];simp only[Option.bind_some]
 rcases k2 with k2 | ⟨k2,j2,s2⟩
 ·exact ⟨-1,by rw[if_pos (decide_eq_true k2)],.inl (by decide)⟩
 rw[if_neg (by simpa using k2)]
 exact ⟨_,rfl,.inr ⟨by omega,by omega,⟨s1,s2⟩⟩⟩
theorem JJ:HA qS:=fun xs l hl h0 h1=>szF xs (fT hl).1 (fun _=>⟨trivial,trivial,trivial,trivial⟩) h0 h1
theorem JK:HA nz:=by
 intro x l hl h0 h1
 unfold nz
 try simp only[fb]
 obtain ⟨r1,e1,k1⟩:=FE x.1 l hl.1 (by omega) (by omega)
 rw[e1];simp only[Option.bind_some]
 rcases k1 with k1 | ⟨k1,j1,s1⟩
 ·exact ⟨-1,by rw[if_pos (decide_eq_true k1)],.inl (by decide)⟩
 rw[if_neg (by simpa using k1)]
 obtain ⟨r2,e2,k2⟩:=JJ x.2 r1 hl.2 (by omega) (by omega)
 rw[e2];simp only[Option.bind_some]
 rcases k2 with k2 | ⟨k2,j2,s2⟩
 ·exact ⟨-1,by rw[if_pos (decide_eq_true k2)],.inl (by decide)⟩
 rw[if_neg (by simpa using k2)]
 exact ⟨_,rfl,.inr ⟨by omega,by omega,⟨s1,s2⟩⟩⟩
theorem JL:FD nC:=by
 intro xs hx
 have hn:=(aB hx).1
 unfold nC
 rw[uH (by omega)];simp only[Option.bind_some]
 rw[toL (f:=jL xs) xs (by omega) (fun ys i h hy=>by simp only[jL,bS h,if_true,aq h,aq (show i<ys.length by omega),Option.bind_some,fb,aa (show i<9223372036854775807 by omega),Int.toNat_natCast]) (fun ys hy=>by simp only[jL,bm];rfl)]
 rfl
theorem FF:FD mQ:=by
 intro xs hx
 have hn:=(aB hx).1
 unfold mQ
 rw[uH (by omega)];simp only[Option.bind_some]
 rw[toL (f:=kP xs) xs (by omega) (fun ys i h hy=>by simp only[kP,bS h,if_true,aq h,aq (show i<ys.length by omega),Option.bind_some,fb,aa (show i<9223372036854775807 by omega),Int.toNat_natCast]) (fun ys hy=>by simp only[kP,bm];rfl)]
 rfl
theorem JM:FD nD:=by
 intro xs hx
 have hn:=(aB hx).1
 unfold nD
 rw[uH (by omega)];simp only[Option.bind_some]
 rw[toL (f:=jM xs) xs (by omega) (fun ys i h hy=>by simp only[jM,bS h,if_true,aq h,aq (show i<ys.length by omega),Option.bind_some,fb,FF xs[i] ((aB hx).2 _ (List.getElem_mem h)),aa (show i<9223372036854775807 by omega),Int.toNat_natCast]) (fun ys hy=>by simp only[jM,bm];rfl)]
 rfl
theorem Ay:FD iI:=by
 intro x hx
 unfold iI
 simp only[fb,Option.bind_some,JL x.2.1 hx.2.1,JM x.2.2 hx.2.2]
theorem yf:FD gA:=by
 intro xs hx
 have hn:=(aB hx).1
 unfold gA
 rw[uH (by omega)];simp only[Option.bind_some]
 rw[toL (f:=eA xs) xs (by omega) (fun ys i h hy=>by simp only[eA,bS h,if_true,aq h,aq (show i<ys.length by omega),Option.bind_some,fb,Ay xs[i] ((aB hx).2 _ (List.getElem_mem h)),aa (show i<9223372036854775807 by omega),Int.toNat_natCast]) (fun ys hy=>by simp only[eA,bm];rfl)]
 rfl
theorem JN:FD nE:=by
 intro x hx
 unfold nE
 simp only[fb,Option.bind_some]
theorem Hb:FD mb:=by
 intro xs hx
 have hn:=(aB hx).1
 unfold mb
 rw[uH (by omega)];simp only[Option.bind_some]
 rw[toL (f:=iJ xs) xs (by omega) (fun ys i h hy=>by simp only[iJ,bS h,if_true,aq h,aq (show i<ys.length by omega),Option.bind_some,fb,JN xs[i] ((aB hx).2 _ (List.getElem_mem h)),aa (show i<9223372036854775807 by omega),Int.toNat_natCast]) (fun ys hy=>by simp only[iJ,bm];rfl)]
 rfl
theorem MR:FD pR:=by
 intro x hx
 unfold pR
 simp only[fb,Option.bind_some,Hb x hx]
theorem yg:FD gB:=by
 intro x hx
 unfold gB
 simp only[fb,Option.bind_some,MR x.2.1 hx.2.1]
theorem xh:FD fP:=by
 intro xs hx
 have hn:=(aB hx).1
 unfold fP
 rw[uH (by omega)];simp only[Option.bind_some]
 rw[toL (f:=dK xs) xs (by omega) (fun ys i h hy=>by simp only[dK,bS h,if_true,aq h,aq (show i<ys.length by omega),Option.bind_some,fb,yg xs[i] ((aB hx).2 _ (List.getElem_mem h)),aa (show i<9223372036854775807 by omega),Int.toNat_natCast]) (fun ys hy=>by simp only[dK,bm];rfl)]
 rfl
theorem Cz:FD dB:=by
 intro x hx
 unfold dB
 simp only[fb,Option.bind_some,yf x.1 hx.1,xh x.2 hx.2]
theorem MS:FD pS:=by
 intro x hx
 unfold pS
 simp only[fb,Option.bind_some]
theorem JO:FD nF:=by
 intro xs hx
 have hn:=(aB hx).1
 unfold nF
 rw[uH (by omega)];simp only[Option.bind_some]
 rw[toL (f:=jN xs) xs (by omega) (fun ys i h hy=>by simp only[jN,bS h,if_true,aq h,aq (show i<ys.length by omega),Option.bind_some,fb,MS xs[i] ((aB hx).2 _ (List.getElem_mem h)),aa (show i<9223372036854775807 by omega),Int.toNat_natCast]) (fun ys hy=>by simp only[jN,bm];rfl)]
 rfl
theorem JP:FD gP:=by
 intro x hx
 unfold gP
 simp only[fb,Option.bind_some,FF x.1 hx.1,JO x.2 hx.2]
theorem MT:CZ pW:=by
 intro x y hx hy
 unfold pW
 try simp only[fb,Option.bind_some]
 repeat' split
 all_goals simp_all[Prod.ext_iff]
theorem JQ:CZ lE:=fun xs ys hx hy=>eqL (f:=jQ xs ys) xs ys (by have:=(aB hx).1;omega) (fun i h h'=>by
 simp only[jQ,bS h,if_true,aq h,aq h',Option.bind_some,fb,MT xs[i] ys[i] ((aB hx).2 _ (List.getElem_mem h)) ((aB hy).2 _ (List.getElem_mem h')),aa (show i<9223372036854775807 by have:=(aB hx).1;omega)]
 first | exact e7 (by simp) | exact pq (by simp) | exact e7 (by simp[Prod.ext_iff])) (by simp only[jQ,bm];rfl)
theorem JR:CZ qV:=fun xs ys hx hy=>eqL (f:=jR xs ys) xs ys (by have:=(aB hx).1;omega) (fun i h h'=>by
 simp only[jR,bS h,if_true,aq h,aq h',Option.bind_some,fb,aa (show i<9223372036854775807 by have:=(aB hx).1;omega)]
 first | exact e7 (by simp) | exact pq (by simp) | exact e7 (by simp[Prod.ext_iff])) (by simp only[jR,bm];rfl)
theorem FG:CZ pX:=fun xs ys hx hy=>eqL (f:=kR xs ys) xs ys (by have:=(aB hx).1;omega) (fun i h h'=>by
 simp only[kR,bS h,if_true,aq h,aq h',Option.bind_some,fb,aa (show i<9223372036854775807 by have:=(aB hx).1;omega)]
 first | exact e7 (by simp) | exact pq (by simp) | exact e7 (by simp[Prod.ext_iff])) (by simp only[kR,bm];rfl)
theorem JS:CZ qW:=fun xs ys hx hy=>eqL (f:=jS xs ys) xs ys (by have:=(aB hx).1;omega) (fun i h h'=>by
 simp only[jS,bS h,if_true,aq h,aq h',Option.bind_some,fb,FG xs[i] ys[i] ((aB hx).2 _ (List.getElem_mem h)) ((aB hy).2 _ (List.getElem_mem h')),aa (show i<9223372036854775807 by have:=(aB hx).1;omega)]
 first | exact e7 (by simp) | exact pq (by simp) | exact e7 (by simp[Prod.ext_iff])) (by simp only[jS,bm];rfl)
theorem Az:CZ iS:=by
 intro x y hx hy
 unfold iS
 try simp only[fb,Option.bind_some,JR x.2.1 y.2.1 hx.2.1 hy.2.1,JS x.2.2 y.2.2 hx.2.2 hy.2.2]
 repeat' split
 all_goals simp_all[Prod.ext_iff]
theorem yh:CZ kz:=fun xs ys hx hy=>eqL (f:=eG xs ys) xs ys (by have:=(aB hx).1;omega) (fun i h h'=>by
 simp only[eG,bS h,if_true,aq h,aq h',Option.bind_some,fb,Az xs[i] ys[i] ((aB hx).2 _ (List.getElem_mem h)) ((aB hy).2 _ (List.getElem_mem h')),aa (show i<9223372036854775807 by have:=(aB hx).1;omega)]
 first | exact e7 (by simp) | exact pq (by simp) | exact e7 (by simp[Prod.ext_iff])) (by simp only[eG,bm];rfl)
theorem JT:CZ nJ:=by
 intro x y hx hy
 unfold nJ
 try simp only[fb,Option.bind_some]
 repeat' split
 all_goals simp_all[Prod.ext_iff]
theorem Hc:CZ oY:=fun xs ys hx hy=>eqL (f:=iT xs ys) xs ys (by have:=(aB hx).1;omega) (fun i h h'=>by
 simp only[iT,bS h,if_true,aq h,aq h',Option.bind_some,fb,JT xs[i] ys[i] ((aB hx).2 _ (List.getElem_mem h)) ((aB hy).2 _ (List.getElem_mem h')),aa (show i<9223372036854775807 by have:=(aB hx).1;omega)]
 first | exact e7 (by simp) | exact pq (by simp) | exact e7 (by simp[Prod.ext_iff])) (by simp only[iT,bm];rfl)
theorem MU:CZ pY:=by
 intro x y hx hy
 unfold pY
 try simp only[fb,Option.bind_some,Hc x y hx hy]
 repeat' split
 all_goals simp_all[Prod.ext_iff]
theorem yi:CZ gD:=by
 intro x y hx hy
 unfold gD
 try simp only[fb,Option.bind_some,MU x.2.1 y.2.1 hx.2.1 hy.2.1]
 repeat' split
 all_goals simp_all[Prod.ext_iff]
theorem xi:CZ jr:=fun xs ys hx hy=>eqL (f:=dL xs ys) xs ys (by have:=(aB hx).1;omega) (fun i h h'=>by
 simp only[dL,bS h,if_true,aq h,aq h',Option.bind_some,fb,yi xs[i] ys[i] ((aB hx).2 _ (List.getElem_mem h)) ((aB hy).2 _ (List.getElem_mem h')),aa (show i<9223372036854775807 by have:=(aB hx).1;omega)]
 first | exact e7 (by simp) | exact pq (by simp) | exact e7 (by simp[Prod.ext_iff])) (by simp only[dL,bm];rfl)
theorem CA:CZ jT:=by
 intro x y hx hy
 unfold jT
 try simp only[fb,Option.bind_some,yh x.1 y.1 hx.1 hy.1,xi x.2 y.2 hx.2 hy.2]
 repeat' split
 all_goals simp_all[Prod.ext_iff]
theorem MV:CZ pZ:=by
 intro x y hx hy
 unfold pZ
 try simp only[fb,Option.bind_some]
 repeat' split
 all_goals simp_all[Prod.ext_iff]
theorem JU:CZ qX:=fun xs ys hx hy=>eqL (f:=jU xs ys) xs ys (by have:=(aB hx).1;omega) (fun i h h'=>by
 simp only[jU,bS h,if_true,aq h,aq h',Option.bind_some,fb,MV xs[i] ys[i] ((aB hx).2 _ (List.getElem_mem h)) ((aB hy).2 _ (List.getElem_mem h')),aa (show i<9223372036854775807 by have:=(aB hx).1;omega)]
 first | exact e7 (by simp) | exact pq (by simp) | exact e7 (by simp[Prod.ext_iff])) (by simp only[jU,bm];rfl)
theorem JV:CZ nK:=by
 intro x y hx hy
 unfold nK
 try simp only[fb,Option.bind_some,FG x.1 y.1 hx.1 hy.1,JU x.2 y.2 hx.2 hy.2]
 repeat' split
 all_goals simp_all[Prod.ext_iff]
end D
namespace D
open Go.RowKit
theorem cJ {R S:Type} {f:S→Option (Out R S)} (Inv:Nat→S→Prop) (Q:Out R S→Prop) (N:Nat)
  (h: ∀i s,i≤N→Inv i s→(i<N∧ ∃s',f s=some (.nxt s')∧Inv (i+1) s')∨ ∃o,f s=some o∧(∀s',o≠ .nxt s')∧Q o) {s:S} (h0:Inv 0 s) (hN:N<aD): ∃o,ai f aD s=some o∧Q o:=by
 have key: ∀(k i:Nat) (s:S),i≤N→N<i+k→Inv i s→ ∃o,ai f k s=some o∧Q o:=by
  intro k
  induction k with
  | zero=>intro i s h1 h2;omega
  | succ k ih =>
   intro i s h1 h2 hI
   rcases h i s h1 hI with ⟨hi,s',e,hI'⟩ | ⟨o,e,hn,hq⟩
   ·obtain ⟨o,e',hq⟩:=ih (i+1) s' (by omega) (by omega) hI'
    exact ⟨o,by rw[ai,e];exact e',hq⟩
   ·refine ⟨o,?_,hq⟩
    rw[ai,e]
    cases o with
    | nxt s'=>exact absurd rfl (hn s')
    | brk s'=>rfl
    | ret r=>rfl
 exact key aD 0 s (by omega) (by omega) h0
theorem nc {R S:Type} {f:S→Option (Out R S)} (Inv:Nat→S→Prop) (N:Nat) (h: ∀i s,i<N→Inv i s→ ∃s',f s=some (.nxt s')∧Inv (i+1) s') (he: ∀s,Inv N s→f s=some (.brk s)) {s:S} (h0:Inv 0 s) (hN:N<aD): ∃s',ai f aD s=some (.brk s')∧Inv N s':=by
 obtain ⟨o,e,s',rfl,h⟩:=cJ (f:=f) Inv (fun o=> ∃s',o= .brk s'∧Inv N s') N (fun i s hi hI=>by
  by_cases h1:i<N
  ·exact .inl ⟨h1,h i s h1 hI⟩
  ·obtain rfl:i=N:=by omega
   exact .inr ⟨_,he s hI,(fun s' e=>by cases e),s,rfl,hI⟩) h0 hN
 exact ⟨s',e,h⟩
theorem aA {R S:Type} {f:S→Option (Out R S)} (st:Nat→S) (N:Nat) (h: ∀i,i<N→f (st i)=some (.nxt (st (i+1)))) (he:f (st N)=some (.brk (st N))) (hN:N<aD):ai f aD (st 0)=some (.brk (st N)):=Cx st N h he hN
theorem kp {k:Nat} (h:k≤9223372036854775807):k<aD:=ox k h
theorem sD {i:Nat} (h:i≤9223372036854775807):IntKind.i64.wrap (i:Int)=(i:Int):=cH (by omega) (by omega)
theorem lP {i:Nat} (h:i≤9223372036854775807):IntKind.i64.wrap ((i:Int) - 1)=(i:Int) - 1:=cH (by omega) (by omega)
theorem aw {α:Type} {b:Nat} {xs ys:List α} (h:(xs.length+ys.length)*b≤140737488355328):cC b xs ys=some (xs++ys):=by unfold cC;rw[if_pos h]
theorem bE {R S T:Type} {x:Option (Out R S)} {r:R} {kr:R→Option T} {k:S→Option T} (h:x=some (.ret r)):ay x kr k=kr r:=by rw[h];rfl
theorem af {R S T:Type} {x:Option (Out R S)} {s:S} {kr:R→Option T} {k:S→Option T} (h:x=some (.brk s)):ay x kr k=k s:=by rw[h];rfl
def nth {α:Type} [Inhabited α] (xs:List α) (i:Int):α:=xs.getD i.toNat default
section
variable {α:Type} [Inhabited α] {xs ys:List α}
theorem aj {i:Int} (h0:0≤i) (h1:i<xs.length):az xs i=some (nth xs i):=by
 unfold az nth
 rw[if_pos h0]
 have:i.toNat<xs.length:=by omega
 simp[List.getD_eq_getElem?_getD,this]
theorem bw {i:Nat} (h:i<xs.length):nth xs (i:Int)=xs[i]:=by simp[nth,List.getD_eq_getElem?_getD,h]
theorem bg {i:Int} (h0:0≤i) (h1:i<xs.length):nth xs i∈xs:=by
 have:i.toNat<xs.length:=by omega
 have e:nth xs i=xs[i.toNat]:=by simp[nth,List.getD_eq_getElem?_getD,this]
 rw[e];exact List.getElem_mem this
theorem lQ {i:Int} (h0:0≤i) (h1:i<xs.length):nth (xs++ys) i=nth xs i:=by
 have:i.toNat<xs.length:=by omega
 simp[nth,List.getD_eq_getElem?_getD,List.getElem?_append_left this]
theorem Qm {β:Type} [Inhabited β] {f:α→β} {i:Int} (h0:0≤i) (h1:i<xs.length):nth (xs.map f) i=f (nth xs i):=by
 have:i.toNat<xs.length:=by omega
 simp[nth,List.getD_eq_getElem?_getD,this]
theorem AA {x:α} (h:x∈xs): ∃i:Nat,i<xs.length∧nth xs (i:Int)=x:=by
 obtain ⟨i,hi,rfl⟩:=List.getElem_of_mem h
 exact ⟨i,hi,bw hi⟩
theorem mu {i:Int} {x:α} (h0:0≤i) (h1:i<xs.length):nth (xs.set i.toNat x) i=x:=by
 have:i.toNat<xs.length:=by omega
 simp[nth,List.getD_eq_getElem?_getD,this]
theorem p9 {i j:Int} {x:α} (h0:0≤i) (hj:0≤j) (h:i≠j):nth (xs.set i.toNat x) j=nth xs j:=by
 have:i.toNat≠j.toNat:=by omega
 simp[nth,List.getD_eq_getElem?_getD,List.getElem?_set_ne this]
theorem Qn (h:xs.length=ys.length) (k: ∀i:Nat,i<xs.length→nth xs (i:Int)=nth ys (i:Int)):xs=ys:=by
 refine List.ext_getElem h fun i h1 h2=>?_
 have:=k i h1
 rwa [bw h1,bw h2] at this
end
section
variable {κ:Type} [DecidableEq κ]
def nbL (l:List κ):Option κ→List κ
 | none=>l
 | some x=>if x∈l then l else l++ [x]
def nbI (l:List κ):Option κ→Int
 | none=> -1
 | some x=>(l.idxOf x:Int)
def nbS (l:List κ) (os:List (Option κ)):List κ:=os.foldl nbL l
def nbR (l:List κ):List (Option κ)→List Int
 | [] =>[]
 | o::os=>nbI l o::nbR (nbL l o) os
theorem sE (l:List κ) (os:List (Option κ)) (o:Option κ):nbS l (os++ [o])=nbL (nbS l os) o:=by simp[nbS]
theorem qa: ∀(l:List κ) (os:List (Option κ)) (o:Option κ),nbR l (os++ [o])=nbR l os++ [nbI (nbS l os) o]
 | l,[],o=>rfl
 | l,p::os,o=>by
  show nbI l p::nbR (nbL l p) (os++ [o])=nbI l p::nbR (nbL l p) os++ [nbI (nbS (nbL l p) os) o]
  rw[qa (nbL l p) os o];rfl
theorem dj: ∀(l:List κ) (os:List (Option κ)),(nbR l os).length=os.length
 | l,[] =>rfl
 | l,o::os=>by show (nbR (nbL l o) os).length+1=_;rw[dj];rfl
theorem He (l : List κ) (o : Option κ) : l <+: nbL l o := by
  cases o with
  | none => exact List.prefix_refl l
  | some x => unfold nbL; simp only; split
              · exact List.prefix_refl l
              · exact List.prefix_append l [x]
theorem jx: ∀(l:List κ) (os:List (Option κ)),l <+:nbS l os
 | l,[] =>List.prefix_refl l
 | l,o::os=>(He l o).trans (jx (nbL l o) os)
theorem JW {l : List κ} {o : Option κ} (h : l.Nodup) : (nbL l o).Nodup := by
  cases o with
  | none => exact h
  | some x => unfold nbL; simp only; split
              · exact h
              · rename_i hx; exact List.nodup_append.2 ⟨h, by simp, by rintro a ha b hb rfl; simp at hb; exact hx (hb ▸ ha)⟩
theorem pv: ∀ {l:List κ} {os:List (Option κ)},l.Nodup→(nbS l os).Nodup
 | l,[],h=>h
 | l,o::os,h=>pv (l:=nbL l o) (os:=os) (JW h)
theorem JX {l : List κ} {o : Option κ} {x : κ} : x ∈ nbL l o ↔ x ∈ l ∨ o = some x := by
  cases o with
  | none => simp [nbL]
  | some y => unfold nbL; simp only; split
              · rename_i h; constructor
                · exact .inl
                · rintro (h' | h')
                  · exact h'
                  · simp at h'; exact h' ▸ h
              · simp; exact or_congr Iff.rfl eq_comm
theorem tM: ∀ {l:List κ} {os:List (Option κ)} {x:κ},x∈nbS l os↔x∈l∨some x∈os
 | l,[],x=>by simp[nbS]
 | l,o::os,x=>by
  show x∈nbS (nbL l o) os↔_
  rw[tM,JX,List.mem_cons,or_assoc]
  exact or_congr Iff.rfl (or_congr eq_comm Iff.rfl)
theorem kE {l:List κ} {x:κ} (h:x∈l):nbL l (some x)=l:=by simp[nbL,h]
theorem jy {l:List κ} {x:κ} (h:x∉l):nbL l (some x)=l++ [x]:=by simp[nbL,h]
theorem nf {l:List κ} {x:κ} (h:x∉l):l.idxOf x=l.length:=List.idxOf_eq_length h
def bfS (nx:κ→List (Option κ)) (first:κ):Nat→List κ
 | 0=>[first]
 | i+1=>match (bfS nx first i)[i]? with
  | some x=>nbS (bfS nx first i) (nx x)
  | none=>bfS nx first i
def bfR (nx:κ→List (Option κ)) (first:κ):Nat→List (List Int)
 | 0=>[]
 | i+1=>bfR nx first i++(match (bfS nx first i)[i]? with
  | some x=>[nbR (bfS nx first i) (nx x)]
  | none=>[])
variable {nx:κ→List (Option κ)} {first:κ}
theorem AB {i:Nat} (h:i<(bfS nx first i).length):bfS nx first (i+1)=nbS (bfS nx first i) (nx ((bfS nx first i)[i])):=by
 rw[bfS,List.getElem?_eq_getElem h]
theorem sF {i:Nat} (h:i<(bfS nx first i).length):bfR nx first (i+1)=bfR nx first i++ [nbR (bfS nx first i) (nx ((bfS nx first i)[i]))]:=by
 rw[bfR,List.getElem?_eq_getElem h]
theorem ba (i:Nat):bfS nx first i <+:bfS nx first (i+1):=by
 rw[bfS]
 split
 ·exact jx _ _
 ·exact List.prefix_refl _
theorem tN {i j:Nat} (h:i≤j):bfS nx first i <+:bfS nx first j:=by
 induction h with
 | refl=>exact List.prefix_refl _
 | step _ ih=>exact ih.trans (ba _)
theorem ng: ∀i,(bfS nx first i).Nodup
 | 0=>by simp[bfS]
 | i+1=>by
  rw[bfS]
  split
  ·exact pv (ng i)
  ·exact ng i
theorem jX {G:κ→Prop} (h0:G first) (h: ∀x,G x→ ∀y,some y∈nx x→G y): ∀i,∀x∈bfS nx first i,G x
 | 0=>by simp[bfS];exact h0
 | i+1=>by
  rw[bfS]
  split
  ·rename_i y hy
   intro x hx
   rcases tM.1 hx with hx | hx
   ·exact jX h0 h i x hx
   ·exact h y (jX h0 h i y (List.mem_of_getElem? hy)) x hx
  ·exact jX h0 h i
theorem CB (i:Nat):(bfS nx first i)[0]? =some first:=by
 obtain ⟨t,ht⟩:=tN (nx:=nx) (first:=first) (Nat.zero_le i)
 rw[←ht];rfl
theorem ij: ∀ {i:Nat},(∀j,j<i→j<(bfS nx first j).length)→(bfR nx first i).length=i
 | 0,_=>rfl
 | i+1,h=>by rw[sF (h i (by omega)),List.length_append,ij fun j hj=>h j (by omega)];rfl
def bfE (nx:κ→List (Option κ)) (first:κ) (N:Nat):Prop:=N=(bfS nx first N).length∧ ∀i,i<N→i<(bfS nx first i).length
theorem Oq {B:Nat} (hB: ∀i,(bfS nx first i).length≤B): ∃N,N≤B∧bfE nx first N:=by
 have key: ∀m i,i+m=B→(∀j,j<i→j<(bfS nx first j).length)→ ∃N,N≤B∧bfE nx first N:=by
  intro m
  induction m with
  | zero =>
   intro i hi hj
   have h1:=hB i
   have h2:i≤(bfS nx first i).length:=by
    cases i with
    | zero=>omega
    | succ i =>
     have:=hj i (by omega)
     have hp:=(ba (nx:=nx) (first:=first) i).length_le
     omega
   exact ⟨i,by omega,by omega,hj⟩
  | succ m ih =>
   intro i hi hj
   by_cases h:i<(bfS nx first i).length
   ·exact ih (i+1) (by omega) fun j hj'=>by
     by_cases e:j=i
     ·subst e;exact h
     ·exact hj j (by omega)
   ·have h2:i≤(bfS nx first i).length:=by
     cases i with
     | zero=>omega
     | succ i =>
      have:=hj i (by omega)
      have hp:=(ba (nx:=nx) (first:=first) i).length_le
      omega
    exact ⟨i,by omega,by omega,hj⟩
 exact key B 0 (by omega) (by omega)
theorem MW {N M:Nat} (h:bfE nx first N) (k:bfE nx first M):N=M:=by
 rcases Nat.lt_trichotomy N M with e | e | e
 ·have:=k.2 N e;have:=h.1;omega
 ·exact e
 ·have:=h.2 M e;have:=k.1;omega
end
end D
namespace D
open Go.RowKit
section
variable {α:Type} [Inhabited α]
def smk (mk:α→Nat):List α→Nat
 | [] =>0
 | x::xs=>mk x+smk mk xs
def mkd (mk:α→Nat) (m:α→Nat→α):List α→Nat→List α
 | [],_=>[]
 | x::xs,k=>m x k::mkd mk m xs (k+mk x)
theorem AC (mk:α→Nat): ∀(xs:List α) (x:α),smk mk (xs++ [x])=smk mk xs+mk x
 | [],x=>by simp[smk]
 | y::xs,x=>by simp[smk,AC mk xs x,Nat.add_assoc]
theorem AD (mk:α→Nat) (m:α→Nat→α): ∀(xs:List α) (x:α) (k:Nat),mkd mk m (xs++ [x]) k=mkd mk m xs k++ [m x (k+smk mk xs)]
 | [],x,k=>by simp[mkd,smk]
 | y::xs,x,k=>by simp[mkd,smk,AD mk m xs x,Nat.add_assoc]
theorem jz (mk:α→Nat) (m:α→Nat→α): ∀(xs:List α) (k:Nat),(mkd mk m xs k).length=xs.length
 | [],_=>rfl
 | x::xs,k=>by simp[mkd,jz mk m xs]
theorem AE (mk:α→Nat) (m:α→Nat→α): ∀(xs:List α) (k i:Nat),(mkd mk m xs k).take i=mkd mk m (xs.take i) k
 | [],_,_=>by simp[mkd]
 | x::xs,k,0=>by simp[mkd]
 | x::xs,k,i+1=>by simp[mkd,AE mk m xs]
theorem MX {xs:List α} {k:Nat} (h:k<xs.length):xs.take (k+1)=xs.take k++ [nth xs (k:Int)]:=by
 rw[List.take_succ_eq_append_getElem h,bw h]
theorem R5 (mk:α→Nat) (m:α→Nat→α) (xs:List α) (k:Nat) {i:Nat} (h:i<xs.length):nth (mkd mk m xs k) (i:Int)=m (nth xs (i:Int)) (k+smk mk (xs.take i)):=by
 have h':i<(mkd mk m xs k).length:=by rw[jz];exact h
 have e:=MX h'
 rw[AE,AE,MX h,AD] at e
 have:=List.append_cancel_left e
 simpa using this.symm
theorem AF (mk:α→Nat) {xs:List α} {i:Nat} (h:i<xs.length):smk mk (xs.take (i+1))=smk mk (xs.take i)+mk (nth xs (i:Int)):=by rw[MX h,AC]
theorem JY (mk:α→Nat): ∀(xs:List α) (i:Nat),smk mk (xs.take i)≤smk mk xs
 | [],_=>by simp
 | x::xs,0=>by simp[smk]
 | x::xs,i+1=>by simp[smk];exact JY mk xs i
theorem iY (mk:α→Nat) {B:Nat} : ∀(xs:List α),(∀x∈xs,mk x≤B)→smk mk xs≤xs.length*B
 | [],_=>by simp[smk]
 | x::xs,h=>by
  have h1:=iY mk xs fun y hy=>h y (by simp[hy])
  have h2:=h x (by simp)
  simp only[smk,List.length_cons,Nat.add_mul,Nat.one_mul];omega
theorem Qo {xs ys:List α} {i:Nat} (hi:i<xs.length) (hl:ys.length=i) (x:α):(ys++xs.drop i).set i x=ys++ [x] ++xs.drop (i+1):=by
 rw[List.set_append_right _ _ (by omega),hl,Nat.sub_self,List.drop_eq_getElem_cons hi,List.set_cons_zero,List.append_assoc];rfl
theorem CC {R:Type} {f:List α×Int×Int→Option (Out R (List α×Int×Int))} (xs:List α) (mk:α→Nat) (m:α→Nat→α) (hN:xs.length≤9223372036854775807) {k:Nat} (hk:k+smk mk xs≤4611686018427387904)
  (hstep: ∀ys (i k:Nat),i<xs.length→ys.length=xs.length→nth ys (i:Int)=nth xs (i:Int)→k+mk (nth xs (i:Int))≤4611686018427387904→f (ys,(k:Int),(i:Int))=some (.nxt (ys.set i (m (nth xs (i:Int)) k),((k+mk (nth xs (i:Int)):Nat):Int),((i+1:Nat):Int))))
  (hend: ∀ys (k:Nat),ys.length=xs.length→f (ys,(k:Int),(xs.length:Int))=some (.brk (ys,(k:Int),(xs.length:Int)))) :
  ai f aD (xs,(k:Int),0)=some (.brk (mkd mk m xs k,((k+smk mk xs:Nat):Int),(xs.length:Int))):=by
 have hlen: ∀i,i≤xs.length→(mkd mk m (xs.take i) k++xs.drop i).length=xs.length:=fun i hi=>by
  rw[List.length_append,jz,List.length_take,List.length_drop];omega
 have:=aA (f:=f) (fun i=>(mkd mk m (xs.take i) k++xs.drop i,((k+smk mk (xs.take i):Nat):Int),(i:Int))) xs.length (fun i hi=>by
  have hl:(mkd mk m (xs.take i) k).length=i:=by rw[jz,List.length_take];omega
  have hle:=JY mk xs (i+1)
  rw[AF mk hi] at hle
  rw[hstep _ i (k+smk mk (xs.take i)) hi (hlen i (by omega)) ?_ (by omega),Qo hi hl,MX hi,AD,AC,Nat.add_assoc]
  have h':i<(mkd mk m (xs.take i) k++xs.drop i).length:=by rw[hlen i (by omega)];exact hi
  rw[bw h',bw hi,List.getElem_append_right (by omega)]
  simp[hl]) (by
  have:=hend (mkd mk m (xs.take xs.length) k++xs.drop xs.length) (k+smk mk (xs.take xs.length)) (hlen _ (Nat.le_refl _))
  exact this) (kp hN)
 simpa [mkd,smk] using this
theorem TJ {f:Int×Int→Option (Out Int (Int×Int))} (xs:List α) (mk:α→Nat) (m:α→Nat→α) (hN:xs.length≤9223372036854775807) {k:Nat} (hk:k+smk mk xs≤4611686018427387904)
  (hstep: ∀(i k':Nat),i<xs.length→nth (mkd mk m xs k) (i:Int)=m (nth xs (i:Int)) k'→k'+mk (nth xs (i:Int))≤4611686018427387904→f ((k':Int),(i:Int))=some (.nxt (((k'+mk (nth xs (i:Int)):Nat):Int),((i+1:Nat):Int))))
  (hend: ∀(k':Nat),f ((k':Int),(xs.length:Int))=some (.brk ((k':Int),(xs.length:Int)))) :
  ai f aD ((k:Int),0)=some (.brk (((k+smk mk xs:Nat):Int),(xs.length:Int))):=by
 have:=aA (f:=f) (fun i=>(((k+smk mk (xs.take i):Nat):Int),(i:Int))) xs.length (fun i hi=>by
  have hle:=JY mk xs (i+1)
  rw[AF mk hi] at hle
  rw[hstep i (k+smk mk (xs.take i)) hi (R5 mk m xs k hi) (by omega),AF mk hi,Nat.add_assoc]) (hend _) (kp hN)
 simpa [smk] using this
end
end D
set_option synthInstance.maxSize 20000
set_option synthInstance.maxHeartbeats 2000000
namespace D
open Go.RowKit
theorem kl {α:Type} {xs:List α} {i:Nat} {x:α} (h:i<xs.length):az (xs.set i x) (i:Int)=some x:=by
 rw[aq (by rw[List.length_set];exact h)];simp
theorem UP {n:Nat} :decide ((n:Int)<0)=false:=by simp only[decide_eq_false_iff_not];omega
def je (x:Int):Nat:=1
def FH (x:Int) (k:Nat):Int:=((k:Nat):Int)
theorem JZ (xs:List Int) (hx:Data.sm xs):smk je xs≤1048576*1:=by
 obtain ⟨h1,h2⟩:=aB hx
 have b:=iY je (B:=1) xs (fun x hx=>by
  simp[je])
 exact Nat.le_trans b (Nat.mul_le_mul_right _ h1)
theorem J4 (xs:List Int) (hx:Data.sm xs) {k:Nat} (hk:k+smk je xs≤4611686018427387904):ke xs (k:Int)=some (((k+smk je xs:Nat):Int),mkd je FH xs k):=by
 obtain ⟨hN,hs⟩:=aB hx
 unfold ke
 rw[af (CC (f:=iU) xs je FH (by omega) hk (fun ys i k hi hl he hk=>by
  have hz0:=hs _ (bg (xs:=xs) (i:=(i:Int)) (by omega) (by omega))
  unfold iU
  have hi':i<ys.length:=by omega
  generalize hz:nth xs (i:Int)=z at *
  have hk':k+(1)≤4611686018427387904:=hk
  simp only
  rw[if_pos (by simp;omega),aj (by omega) (by omega),he]
  simp only[Option.bind_some,Int.toNat_natCast,kl hi',List.set_set,aa (show i<9223372036854775807 by omega),aa (show k<9223372036854775807 by omega)]
  have e:k+je z=k+1:=by unfold je;omega
  rw[e];rfl) (fun ys k hl=>by
  unfold iU
  simp only
  rw[if_neg (by simp;omega)]))]
def fH (x:Int×Int):Nat:=1+1
def tO (x:Int×Int) (k:Nat):Int×Int:=(((k:Nat):Int),((k+1:Nat):Int))
theorem MY (xs:List (Int×Int)) (hx:Data.sm xs):smk fH xs≤1048576*2:=by
 obtain ⟨h1,h2⟩:=aB hx
 have b:=iY fH (B:=2) xs (fun x hx=>by
  simp[fH])
 exact Nat.le_trans b (Nat.mul_le_mul_right _ h1)
theorem MZ (xs:List (Int×Int)) (hx:Data.sm xs) {k:Nat} (hk:k+smk fH xs≤4611686018427387904):iV xs (k:Int)=some (((k+smk fH xs:Nat):Int),mkd fH tO xs k):=by
 obtain ⟨hN,hs⟩:=aB hx
 unfold iV
 rw[af (CC (f:=gH) xs fH tO (by omega) hk (fun ys i k hi hl he hk=>by
  have hz0:=hs _ (bg (xs:=xs) (i:=(i:Int)) (by omega) (by omega))
  unfold gH
  have hi':i<ys.length:=by omega
  generalize hz:nth xs (i:Int)=z at *
  have hk':k+(1+1)≤4611686018427387904:=hk
  simp only
  rw[if_pos (by simp;omega),aj (by omega) (by omega),he]
  simp only[Option.bind_some,Int.toNat_natCast,kl hi',List.set_set,aa (show i<9223372036854775807 by omega),aa (show k<9223372036854775807 by omega),aa (show k+1<9223372036854775807 by omega)]
  have e:k+fH z=k+1+1:=by unfold fH;omega
  rw[e];rfl) (fun ys k hl=>by
  unfold gH
  simp only
  rw[if_neg (by simp;omega)]))]
theorem M0 (xs:List (Int×Int)) (hx:Data.sm xs) {k:Nat} (hk:k+smk fH xs≤4611686018427387904):fS (mkd fH tO xs k) (k:Int)=some ((k+smk fH xs:Nat):Int):=by
 obtain ⟨hN,hs⟩:=aB hx
 unfold fS
 rw[af (TJ (f:=gI _) xs fH tO (by omega) hk (fun i k' hi he hk=>by
  have hz0:=hs _ (bg (xs:=xs) (i:=(i:Int)) (by omega) (by omega))
  unfold gI
  generalize hz:nth xs (i:Int)=z at *
  have hk':k'+(1+1)≤4611686018427387904:=hk
  simp only
  rw[if_pos (by simp[jz];omega),aj (by omega) (by rw[jz];omega),he]
  simp only[tO,Option.bind_some,bne_self_eq_false,Bool.false_eq_true,if_false,UP,aa (show i<9223372036854775807 by omega),aa (show k'<9223372036854775807 by omega),aa (show k'+1<9223372036854775807 by omega)]
  have e:k'+fH z=k'+1+1:=by unfold fH;omega
  rw[e]) (fun k'=>by
  unfold gI
  simp only
  rw[if_neg (by simp[jz])]))]
def gR (x:Bool):Nat:=1
def Ec (x:Bool) (k:Nat):Bool:=((Int.tmod ((k:Nat):Int) 3)==0)
theorem M2 (xs:List Bool) (hx:Data.sm xs):smk gR xs≤1048576*1:=by
 obtain ⟨h1,h2⟩:=aB hx
 have b:=iY gR (B:=1) xs (fun x hx=>by
  simp[gR])
 exact Nat.le_trans b (Nat.mul_le_mul_right _ h1)
theorem M3 (xs:List Bool) (hx:Data.sm xs) {k:Nat} (hk:k+smk gR xs≤4611686018427387904):kS xs (k:Int)=some (((k+smk gR xs:Nat):Int),mkd gR Ec xs k):=by
 obtain ⟨hN,hs⟩:=aB hx
 unfold kS
 rw[af (CC (f:=gE) xs gR Ec (by omega) hk (fun ys i k hi hl he hk=>by
  have hz0:=hs _ (bg (xs:=xs) (i:=(i:Int)) (by omega) (by omega))
  unfold gE
  have hi':i<ys.length:=by omega
  generalize hz:nth xs (i:Int)=z at *
  have hk':k+(1)≤4611686018427387904:=hk
  simp only
  rw[if_pos (by simp;omega),aj (by omega) (by omega),he]
  simp only[Option.bind_some,Int.toNat_natCast,kl hi',List.set_set,aa (show i<9223372036854775807 by omega),aa (show k<9223372036854775807 by omega)]
  have e:k+gR z=k+1:=by unfold gR;omega
  rw[e];rfl) (fun ys k hl=>by
  unfold gE
  simp only
  rw[if_neg (by simp;omega)]))]
def jA (x:List Int):Nat:=smk je (x)
def Ed (x:List Int) (k:Nat):List Int:=mkd je FH x k
theorem M4 (xs:List (List Int)) (hx:Data.sm xs):smk jA xs≤1048576*1048576:=by
 obtain ⟨h1,h2⟩:=aB hx
 have b:=iY jA (B:=1048576) xs (fun x hx=>by
  have hs:=h2 x hx
  have q0:=JZ (x) hs
  unfold jA;omega)
 exact Nat.le_trans b (Nat.mul_le_mul_right _ h1)
theorem M5 (xs:List (List Int)) (hx:Data.sm xs) {k:Nat} (hk:k+smk jA xs≤4611686018427387904):kT xs (k:Int)=some (((k+smk jA xs:Nat):Int),mkd jA Ed xs k):=by
 obtain ⟨hN,hs⟩:=aB hx
 unfold kT
 rw[af (CC (f:=gF) xs jA Ed (by omega) hk (fun ys i k hi hl he hk=>by
  have hz0:=hs _ (bg (xs:=xs) (i:=(i:Int)) (by omega) (by omega))
  unfold gF
  have hi':i<ys.length:=by omega
  generalize hz:nth xs (i:Int)=z at *
  have hk':k+(smk je (z))≤4611686018427387904:=hk
  have m0:=J4 (z) hz0 (k:=k) (by omega)
  simp only
  rw[if_pos (by simp;omega),aj (by omega) (by omega),he]
  simp only[Option.bind_some,Int.toNat_natCast,kl hi',List.set_set,aa (show i<9223372036854775807 by omega),m0]
  have e:k+jA z=k+smk je (z):=by unfold jA;omega
  rw[e];rfl) (fun ys k hl=>by
  unfold gF
  simp only
  rw[if_neg (by simp;omega)]))]
def bD (x:Int×(List Bool)×(List (List Int))):Nat:=1+smk gR (x.2.1)+smk jA (x.2.2)
def pw (x:Int×(List Bool)×(List (List Int))) (k:Nat):Int×(List Bool)×(List (List Int)):=(((k:Nat):Int),mkd gR Ec (x.2.1) (k+1),mkd jA Ed (x.2.2) (k+1+smk gR (x.2.1)))
theorem AG (xs:List (Int×(List Bool)×(List (List Int)))) (hx:Data.sm xs):smk bD xs≤1048576*1099512676353:=by
 obtain ⟨h1,h2⟩:=aB hx
 have b:=iY bD (B:=1099512676353) xs (fun x hx=>by
  have hs:=h2 x hx
  have q0:=M2 (x.2.1) hs.2.1
  have q1:=M4 (x.2.2) hs.2.2
  unfold bD;omega)
 exact Nat.le_trans b (Nat.mul_le_mul_right _ h1)
theorem AH (xs:List (Int×(List Bool)×(List (List Int)))) (hx:Data.sm xs) {k:Nat} (hk:k+smk bD xs≤4611686018427387904):eW xs (k:Int)=some (((k+smk bD xs:Nat):Int),mkd bD pw xs k):=by
 obtain ⟨hN,hs⟩:=aB hx
 unfold eW
 rw[af (CC (f:=dw) xs bD pw (by omega) hk (fun ys i k hi hl he hk=>by
  have hz0:=hs _ (bg (xs:=xs) (i:=(i:Int)) (by omega) (by omega))
  unfold dw
  have hi':i<ys.length:=by omega
  generalize hz:nth xs (i:Int)=z at *
  have hk':k+(1+smk gR (z.2.1)+smk jA (z.2.2))≤4611686018427387904:=hk
  have m0:=M3 (z.2.1) hz0.2.1 (k:=k+1) (by omega)
  have m1:=M5 (z.2.2) hz0.2.2 (k:=k+1+smk gR (z.2.1)) (by omega)
  simp only
  rw[if_pos (by simp;omega),aj (by omega) (by omega),he]
  simp only[Option.bind_some,Int.toNat_natCast,kl hi',List.set_set,aa (show i<9223372036854775807 by omega),aa (show k<9223372036854775807 by omega),m0,m1]
  have e:k+bD z=k+1+smk gR (z.2.1)+smk jA (z.2.2):=by unfold bD;omega
  rw[e];rfl) (fun ys k hl=>by
  unfold dw
  simp only
  rw[if_neg (by simp;omega)]))]
def eJ (x:Int×Int×Int×Int):Nat:=1+1+1+1
def AI (x:Int×Int×Int×Int) (k:Nat):Int×Int×Int×Int:=(((k:Nat):Int),((k+1:Nat):Int),((k+1+1:Nat):Int),((k+1+1+1:Nat):Int))
theorem J5 (xs:List (Int×Int×Int×Int)) (hx:Data.sm xs):smk eJ xs≤1048576*4:=by
 obtain ⟨h1,h2⟩:=aB hx
 have b:=iY eJ (B:=4) xs (fun x hx=>by
  simp[eJ])
 exact Nat.le_trans b (Nat.mul_le_mul_right _ h1)
theorem J6 (xs:List (Int×Int×Int×Int)) (hx:Data.sm xs) {k:Nat} (hk:k+smk eJ xs≤4611686018427387904):jV xs (k:Int)=some (((k+smk eJ xs:Nat):Int),mkd eJ AI xs k):=by
 obtain ⟨hN,hs⟩:=aB hx
 unfold jV
 rw[af (CC (f:=fR) xs eJ AI (by omega) hk (fun ys i k hi hl he hk=>by
  have hz0:=hs _ (bg (xs:=xs) (i:=(i:Int)) (by omega) (by omega))
  unfold fR
  have hi':i<ys.length:=by omega
  generalize hz:nth xs (i:Int)=z at *
  have hk':k+(1+1+1+1)≤4611686018427387904:=hk
  simp only
  rw[if_pos (by simp;omega),aj (by omega) (by omega),he]
  simp only[Option.bind_some,Int.toNat_natCast,kl hi',List.set_set,aa (show i<9223372036854775807 by omega),aa (show k<9223372036854775807 by omega),aa (show k+1<9223372036854775807 by omega),aa (show k+1+1<9223372036854775807 by omega),aa (show k+1+1+1<9223372036854775807 by omega)]
  have e:k+eJ z=k+1+1+1+1:=by unfold eJ;omega
  rw[e];rfl) (fun ys k hl=>by
  unfold fR
  simp only
  rw[if_neg (by simp;omega)]))]
def bH (x:Int×((List (Int×Int×Int×Int)))×Int):Nat:=1+smk eJ (x.2.1)+1
def nT (x:Int×((List (Int×Int×Int×Int)))×Int) (k:Nat):Int×((List (Int×Int×Int×Int)))×Int:=(((k:Nat):Int),mkd eJ AI (x.2.1) (k+1),((k+1+smk eJ (x.2.1):Nat):Int))
theorem yj (xs:List (Int×((List (Int×Int×Int×Int)))×Int)) (hx:Data.sm xs):smk bH xs≤1048576*4194306:=by
 obtain ⟨h1,h2⟩:=aB hx
 have b:=iY bH (B:=4194306) xs (fun x hx=>by
  have hs:=h2 x hx
  have q0:=J5 (x.2.1) hs.2.1
  unfold bH;omega)
 exact Nat.le_trans b (Nat.mul_le_mul_right _ h1)
theorem yk (xs:List (Int×((List (Int×Int×Int×Int)))×Int)) (hx:Data.sm xs) {k:Nat} (hk:k+smk bH xs≤4611686018427387904):eH xs (k:Int)=some (((k+smk bH xs:Nat):Int),mkd bH nT xs k):=by
 obtain ⟨hN,hs⟩:=aB hx
 unfold eH
 rw[af (CC (f:=c8) xs bH nT (by omega) hk (fun ys i k hi hl he hk=>by
  have hz0:=hs _ (bg (xs:=xs) (i:=(i:Int)) (by omega) (by omega))
  unfold c8
  have hi':i<ys.length:=by omega
  generalize hz:nth xs (i:Int)=z at *
  have hk':k+(1+smk eJ (z.2.1)+1)≤4611686018427387904:=hk
  have m0:=J6 (z.2.1) hz0.2.1 (k:=k+1) (by omega)
  simp only
  rw[if_pos (by simp;omega),aj (by omega) (by omega),he]
  simp only[Option.bind_some,Int.toNat_natCast,kl hi',List.set_set,aa (show i<9223372036854775807 by omega),aa (show k<9223372036854775807 by omega),aa (show k+1+smk eJ (z.2.1)<9223372036854775807 by omega),m0]
  have e:k+bH z=k+1+smk eJ (z.2.1)+1:=by unfold bH;omega
  rw[e];rfl) (fun ys k hl=>by
  unfold c8
  simp only
  rw[if_neg (by simp;omega)]))]
def kF (x:Int×Int×Int×Int):Nat:=1+1+1+1
def Ee (x:Int×Int×Int×Int) (k:Nat):Int×Int×Int×Int:=(((k:Nat):Int),((k+1:Nat):Int),((k+1+1:Nat):Int),((k+1+1+1:Nat):Int))
theorem M6 (xs:List (Int×Int×Int×Int)) (hx:Data.sm xs):smk kF xs≤1048576*4:=by
 obtain ⟨h1,h2⟩:=aB hx
 have b:=iY kF (B:=4) xs (fun x hx=>by
  simp[kF])
 exact Nat.le_trans b (Nat.mul_le_mul_right _ h1)
theorem M7 (xs:List (Int×Int×Int×Int)) (hx:Data.sm xs) {k:Nat} (hk:k+smk kF xs≤4611686018427387904):kU xs (k:Int)=some (((k+smk kF xs:Nat):Int),mkd kF Ee xs k):=by
 obtain ⟨hN,hs⟩:=aB hx
 unfold kU
 rw[af (CC (f:=gG) xs kF Ee (by omega) hk (fun ys i k hi hl he hk=>by
  have hz0:=hs _ (bg (xs:=xs) (i:=(i:Int)) (by omega) (by omega))
  unfold gG
  have hi':i<ys.length:=by omega
  generalize hz:nth xs (i:Int)=z at *
  have hk':k+(1+1+1+1)≤4611686018427387904:=hk
  simp only
  rw[if_pos (by simp;omega),aj (by omega) (by omega),he]
  simp only[Option.bind_some,Int.toNat_natCast,kl hi',List.set_set,aa (show i<9223372036854775807 by omega),aa (show k<9223372036854775807 by omega),aa (show k+1<9223372036854775807 by omega),aa (show k+1+1<9223372036854775807 by omega),aa (show k+1+1+1<9223372036854775807 by omega)]
  have e:k+kF z=k+1+1+1+1:=by unfold kF;omega
  rw[e];rfl) (fun ys k hl=>by
  unfold gG
  simp only
  rw[if_neg (by simp;omega)]))]
def fU (x:(List (Int×(List Bool)×(List (List Int))))×(List (Int×((List (Int×Int×Int×Int)))×Int))):Nat:=smk bD (x.1)+smk bH (x.2)
def Hf (x:(List (Int×(List Bool)×(List (List Int))))×(List (Int×((List (Int×Int×Int×Int)))×Int))) (k:Nat):(List (Int×(List Bool)×(List (List Int))))×(List (Int×((List (Int×Int×Int×Int)))×Int)):=(mkd bD pw (x.1) (k),mkd bH nT (x.2) (k+smk bD (x.1)))
theorem Ef (x:(List (Int×(List Bool)×(List (List Int))))×(List (Int×((List (Int×Int×Int×Int)))×Int))) (hx:Data.sm x):fU x≤1152927002168131584:=by
 have q0:=AG (x.1) hx.1
 have q1:=yj (x.2) hx.2
 unfold fU;omega
theorem Eg (x:(List (Int×(List Bool)×(List (List Int))))×(List (Int×((List (Int×Int×Int×Int)))×Int))) (hx:Data.sm x) {k:Nat} (hk:k+fU x≤4611686018427387904):eP x (k:Int)=some (((k+fU x:Nat):Int),Hf x k):=by
 unfold fU at hk
 have m0:=AH (x.1) hx.1 (k:=k) (by omega)
 have m1:=yk (x.2) hx.2 (k:=k+smk bD (x.1)) (by omega)
 unfold eP
 simp only[fb,Option.bind_some,m0,m1]
 have e:k+fU x=k+smk bD (x.1)+smk bH (x.2):=by unfold fU;omega
 rw[e];rfl
def px (x:(List Int)×(List (Int×Int×Int×Int))):Nat:=smk je (x.1)+smk kF (x.2)
def Qp (x:(List Int)×(List (Int×Int×Int×Int))) (k:Nat):(List Int)×(List (Int×Int×Int×Int)):=(mkd je FH (x.1) (k),mkd kF Ee (x.2) (k+smk je (x.1)))
theorem M8 (x:(List Int)×(List (Int×Int×Int×Int))) (hx:Data.sm x):px x≤5242880:=by
 have q0:=JZ (x.1) hx.1
 have q1:=M6 (x.2) hx.2
 unfold px;omega
theorem M9 (x:(List Int)×(List (Int×Int×Int×Int))) (hx:Data.sm x) {k:Nat} (hk:k+px x≤4611686018427387904):kV x (k:Int)=some (((k+px x:Nat):Int),Qp x k):=by
 unfold px at hk
 have m0:=J4 (x.1) hx.1 (k:=k) (by omega)
 have m1:=M7 (x.2) hx.2 (k:=k+smk je (x.1)) (by omega)
 unfold kV
 simp only[fb,Option.bind_some,m0,m1]
 have e:k+px x=k+smk je (x.1)+smk kF (x.2):=by unfold px;omega
 rw[e];rfl
end D
namespace D
open Go.RowKit
abbrev AutT:=Int×(List Bool)×(List (List Int))
structure VA (a:AutT) (n:Nat):Prop where
 len:a.2.1.length=n
 start:0≤a.1∧a.1<n
 nlen:a.2.2.length=n
 row: ∀r∈a.2.2,r.length=9
 ent: ∀r∈a.2.2,∀t∈r,-1≤t∧t<n
def mv (a:AutT) (s:Int) (k:Nat):Int:=nth (nth a.2.2 s) k
theorem Qq (x l h:Int):dm x l h=some (decide (l≤x∧x≤h)):=by
 unfold dm
 by_cases c:l≤x
 ·simp[c]
 ·have: ¬l≤x∧True:=⟨c,trivial⟩
  simp[c]
theorem HB (x l h:Int):bI x l h=some (decide (l≤x∧x≤h)):=by
 unfold bI
 by_cases c:l≤x
 ·simp[c]
 ·simp[c]
theorem scan {α R:Type} [Inhabited α] {f:Int→Option (Out R Int)} (xs:List α) (p:α→Prop) [DecidablePred p] (r:R) (hN:xs.length≤9223372036854775807)
  (h: ∀i:Nat,i<xs.length→f (i:Int)=some (if p (nth xs i) then .nxt ((i+1:Nat):Int) else .ret r)) (he:f (xs.length:Int)=some (.brk (xs.length:Int))) :
  (ai f aD 0=some (.brk (xs.length:Int))∧ ∀x∈xs,p x)∨(ai f aD 0=some (.ret r)∧ ¬ ∀x∈xs,p x):=by
 obtain ⟨o,e,hq⟩:=cJ (f:=f) (fun i s=>s=(i:Int)∧ ∀j:Nat,j<i→p (nth xs j)) (fun o=>(o= .brk (xs.length:Int)∧ ∀x∈xs,p x)∨(o= .ret r∧ ¬ ∀x∈xs,p x)) xs.length (s:=0) (by
  rintro i s hi ⟨rfl,hp⟩
  by_cases hl:i<xs.length
  ·by_cases c:p (nth xs i)
   ·refine .inl ⟨hl,_,by rw[h i hl,if_pos c],rfl,fun j hj=>?_⟩
    by_cases e:j=i
    ·subst e;exact c
    ·exact hp j (by omega)
   ·refine .inr ⟨_,by rw[h i hl,if_neg c],(fun s' e=>by cases e),.inr ⟨rfl,fun hx=>c (hx _ (bg (by omega) (by omega)))⟩⟩
  ·obtain rfl:i=xs.length:=by omega
   refine .inr ⟨_,he,(fun s' e=>by cases e),.inl ⟨rfl,fun x hx=>?_⟩⟩
   obtain ⟨j,hj,rfl⟩:=AA hx
   exact hp j hj) ⟨rfl,by omega⟩ (kp hN)
 rcases hq with ⟨rfl,hq⟩ | ⟨rfl,hq⟩
 ·exact .inl ⟨e,hq⟩
 ·exact .inr ⟨e,hq⟩
section
variable {a:AutT} {n:Nat} (V:VA a n)
include V
theorem VA.pos:0<n:=by have:=V.start;omega
theorem VA.rowAt {s:Int} (h0:0≤s) (h1:s<n):(nth a.2.2 s).length=9:=V.row _ (bg h0 (by rw[V.nlen];exact h1))
theorem VA.mv {s:Int} {k:Nat} (h0:0≤s) (h1:s<n) (hk:k<9): -1≤mv a s k∧mv a s k<n:=
 V.ent _ (bg h0 (by rw[V.nlen];exact h1)) _ (bg (by omega) (by rw[V.rowAt h0 h1];omega))
theorem VA.get {s:Int} (h0:0≤s) (h1:s<n):az a.2.2 s=some (nth a.2.2 s):=aj h0 (by rw[V.nlen];exact h1)
theorem VA.get2 {s:Int} {k:Nat} (h0:0≤s) (h1:s<n) (hk:k<9):az (nth a.2.2 s) (k:Int)=some (D.mv a s k):=aj (by omega) (by rw[V.rowAt h0 h1];omega)
theorem VA.acc {s:Int} (h0:0≤s) (h1:s<n):az a.2.1 s=some (nth a.2.1 s):=aj h0 (by rw[V.len];exact h1)
theorem CD {s:Int} {k:Nat} (h0:0≤s) (h1:s<n) (hk:k<9):aW a s (k:Int)=some (mv a s k):=by
 unfold aW gZ
 rw[if_neg (by simp;omega),HB];simp only[Option.bind_some]
 rw[if_pos (by simp;omega),V.get h0 h1];simp only[Option.bind_some]
 rw[V.get2 h0 h1 hk];rfl
end
end D
namespace D
open Go.RowKit
abbrev Tok:=Int×Int×Int×Int
def ar (t:Tok):Int:=
 if t.1=1∨t.1=2 then (if t.2.1=0∧t.2.2.1=0∧t.2.2.2=0 then 0 else -1)
 else if t.1=3 then (if (0≤t.2.1∧t.2.1≤8)∧t.2.2.1=0∧t.2.2.2=0 then 0 else -1)
 else if t.1=4∨t.1=5 then (if t.2.1=0∧t.2.2.1=0∧t.2.2.2=0 then 2 else -1)
 else if t.1=6 then (if t.2.1=0∧t.2.2.1=0∧t.2.2.2=0 then 1 else -1)
 else if t.1=7 then (if t.2.1=0∧(0≤t.2.2.1∧t.2.2.1≤t.2.2.2)∧(1≤t.2.2.2∧t.2.2.2≤3) then 1 else -1)
 else -1
theorem Na (x:Int):l7 x=some (decide (0≤x∧x≤8)):=by unfold l7;rw[Qq];rfl
theorem Nb (x:Int):gZ x=some (decide (0≤x∧x≤8)):=by unfold gZ;rw[HB];rfl
theorem UC (t:Tok):lq t=some (ar t):=by
 obtain ⟨k,l,lo,hi⟩:=t
 unfold lq ar
 simp only[Na,Qq,Option.bind_some]
 by_cases h1:k=1
 ·subst h1;simp;grind
 by_cases h2:k=2
 ·subst h2;simp;grind
 by_cases h3:k=3
 ·subst h3;simp;grind
 by_cases h4:k=4
 ·subst h4;simp;grind
 by_cases h5:k=5
 ·subst h5;simp;grind
 by_cases h6:k=6
 ·subst h6;simp;grind
 by_cases h7:k=7
 ·subst h7;simp;grind
 simp[h1,h2,h3,h4,h5,h6,h7]
theorem R6 (t:Tok):nG t=some (decide (0≤ar t)):=by
 obtain ⟨k,l,lo,hi⟩:=t
 unfold nG ar
 simp only[Nb,HB,Option.bind_some]
 by_cases h1:k=1
 ·subst h1;simp;grind
 by_cases h2:k=2
 ·subst h2;simp;grind
 by_cases h3:k=3
 ·subst h3;simp only[]
  by_cases a:0≤l∧l≤8 <;> by_cases b:lo=0 <;> by_cases c:hi=0 <;> simp[a,b,c]
 by_cases h4:k=4
 ·subst h4;simp;grind
 by_cases h5:k=5
 ·subst h5;simp;grind
 by_cases h6:k=6
 ·subst h6;simp;grind
 by_cases h7:k=7
 ·subst h7;simp only[]
  by_cases a:l=0 <;> by_cases b:0≤lo∧lo≤hi <;> by_cases c:1≤hi∧hi≤3 <;> simp[a,b,c]
 simp[h1,h2,h3,h4,h5,h6,h7]
theorem sG (t:Tok): -1≤ar t∧ar t≤2:=by
 unfold ar
 grind
theorem lR {t:Tok} (h:0≤ar t):(ar t=2∧(t.1=4∨t.1=5))∨(ar t=1∧(t.1=6∨t.1=7))∨(ar t=0∧(t.1=1∨t.1=2∨t.1=3)):=by
 unfold ar at h⊢
 grind
theorem xj {t:Tok} (h:0≤ar t) (k:t.1=7):(0≤t.2.2.1∧t.2.2.1≤t.2.2.2)∧(1≤t.2.2.2∧t.2.2.2≤3):=by
 unfold ar at h
 grind
mutual
def flat:Tr Tok→List Tok
 | .nil=>[]
 | .node t ks=>gS ks++ [t]
def gS:List (Tr Tok)→List Tok
 | [] =>[]
 | k::ks=>flat k++gS ks
end
inductive WT:Tr Tok→Prop
 | node {t:Tok} {ks:List (Tr Tok)} :ar t=(ks.length:Int)→(∀k,k∈ks→WT k)→WT (.node t ks)
theorem nh: ∀(a b:List (Tr Tok)),gS (a++b)=gS a++gS b
 | [],b=>rfl
 | k::a,b=>by rw[List.cons_append,gS,gS,nh a b,List.append_assoc]
theorem km (x:Tr Tok):gS [x] =flat x:=by rw[gS,gS,List.append_nil]
theorem J7 (x y:Tr Tok):gS [x,y] =flat x++flat y:=by rw[gS,km]
theorem WT.cases {x:Tr Tok} (h:WT x):(∃t,x= .node t [] ∧ar t=0)∨(∃t a,x= .node t [a] ∧ar t=1∧WT a)∨ ∃t a b,x= .node t [a,b] ∧ar t=2∧WT a∧WT b:=by
 cases h with
 | @node t ks h1 h2 =>
  have:=(sG t).2
  match ks,h1,h2 with
  | [],h1,h2=>exact .inl ⟨t,rfl,h1⟩
  | [a],h1,h2=>exact .inr (.inl ⟨t,a,rfl,h1,h2 a (by simp)⟩)
  | [a,b],h1,h2=>exact .inr (.inr ⟨t,a,b,rfl,h1,h2 a (by simp),h2 b (by simp)⟩)
  | _::_::_::_,h1,h2=>simp at h1;omega
theorem WT.ind {p:Tr Tok→Prop} (h0: ∀t,ar t=0→p (.node t [])) (h1: ∀t a,ar t=1→WT a→p a→p (.node t [a])) (h2: ∀t a b,ar t=2→WT a→WT b→p a→p b→p (.node t [a,b])) {x:Tr Tok} (h:WT x):p x:=by
 induction h with
 | @node t ks e k ih =>
  have:=(sG t).2
  match ks,e,k,ih with
  | [],e,k,ih=>exact h0 t e
  | [a],e,k,ih=>exact h1 t a e (k a (by simp)) (ih a (by simp))
  | [a,b],e,k,ih=>exact h2 t a b e (k a (by simp)) (k b (by simp)) (ih a (by simp)) (ih b (by simp))
  | _::_::_::_,e,_,_=>simp at e;omega
theorem ym (t:Tok):flat (.node t [])= [t]:=by rw[flat,gS];rfl
theorem AJ (t:Tok) (a:Tr Tok):flat (.node t [a])=flat a++ [t]:=by rw[flat,km]
theorem rq (t:Tok) (a b:Tr Tok):flat (.node t [a,b])=(flat a++flat b)++ [t]:=by rw[flat,J7]
theorem WT.pos {x:Tr Tok} (h:WT x):1≤(flat x).length:=by
 cases h with
 | node h1 h2=>rw[flat];simp
def stp (s:List (Tr Tok)) (t:Tok):Option (List (Tr Tok)):=if ar t<0∨(s.length:Int)<ar t then none else some (s.take (s.length - (ar t).toNat)++ [.node t (s.drop (s.length - (ar t).toNat))])
def run:List (Tr Tok)→List Tok→Option (List (Tr Tok))
 | s,[] =>some s
 | s,t::l=>(stp s t).bind fun s'=>run s' l
theorem AK: ∀(a:List Tok) {b:List Tok} {s:List (Tr Tok)},run s (a++b)=(run s a).bind fun s'=>run s' b
 | [],b,s=>rfl
 | t::a,b,s=>by
  rw[List.cons_append,run,run]
  cases stp s t with
  | none=>rfl
  | some s'=>exact AK a
theorem sH {a:List Tok} {t:Tok} {s:List (Tr Tok)} :run s (a++ [t])=(run s a).bind fun s'=>stp s' t:=by
 rw[AK]
 congr 1
 funext s'
 rw[run]
 cases stp s' t <;> rfl
theorem Ot: ∀ {l:List Tok} {s s':List (Tr Tok)},run s l=some s'→(∀k,k∈s→WT k)→(∀k,k∈s'→WT k)∧gS s'=gS s++l
 | [],s,s',h,hs=>by
  obtain rfl:=Option.some.inj h
  exact ⟨hs,by simp⟩
 | t::l,s,s',h,hs=>by
  rw[run] at h
  unfold stp at h
  by_cases c:ar t<0∨(s.length:Int)<ar t
  ·rw[if_pos c] at h;cases h
  ·rw[if_neg c] at h
   have hlen:(s.drop (s.length - (ar t).toNat)).length=(ar t).toNat:=by rw[List.length_drop];omega
   obtain ⟨k1,k2⟩:=Ot (show run _ l=some s' from h) fun k hk=>by
    rcases List.mem_append.1 hk with hk | hk
    ·exact hs k (List.mem_of_mem_take hk)
    ·obtain rfl:=List.mem_singleton.1 hk
     exact .node (by rw[hlen];omega) fun k hk=>hs k (List.mem_of_mem_drop hk)
   refine ⟨k1,?_⟩
   rw[k2,nh,km,flat,←List.append_assoc,←nh,List.take_append_drop]
   simp
theorem Nc {x:Tr Tok} (h:WT x): ∀s,run s (flat x)=some (s++ [x]):=by
 refine WT.ind (p:=fun x=> ∀s,run s (flat x)=some (s++ [x])) ?_ ?_ ?_ h
 ·intro t e s
  rw[ym,run,stp,if_neg (by omega),e]
  simp[run]
 ·intro t a e _ ia s
  rw[AJ,sH,ia]
  show stp (s++ [a]) t=_
  rw[stp,if_neg (by simp;omega),e]
  simp
 ·intro t a b e _ _ ia ib s
  rw[rq,sH,AK,ia]
  show ((run (s++ [a]) (flat b)).bind fun s'=>stp s' t)=_
  rw[ib]
  show stp (s++ [a] ++ [b]) t=_
  rw[stp,if_neg (by simp;omega),e]
  have:(s++ [a] ++ [b]).length - (2:Int).toNat=s.length:=by simp
  rw[this]
  simp
def isX (e:List Tok):Bool:=match run [] e with
 | some [_] =>true
 | _=>false
theorem J8 {e:List Tok} (h:isX e=true): ∃x,run [] e=some [x] ∧WT x∧flat x=e:=by
 unfold isX at h
 split at h
 ·rename_i x hx
  obtain ⟨k1,k2⟩:=Ot hx (fun k hk=>by cases hk)
  refine ⟨x,hx,k1 x (by simp),?_⟩
  rw[km] at k2
  rw[k2];rfl
 ·cases h
theorem J9 {l:List Tok} : ∀ {s s':List (Tr Tok)},run s l=some s'→s'.length≤s.length+l.length:=by
 induction l with
 | nil=>intro s s' h;obtain rfl:=Option.some.inj h;simp
 | cons t l ih =>
  intro s s' h
  rw[run] at h
  obtain ⟨s1,h1,h2⟩:=Option.bind_eq_some_iff.1 h
  have h3:=ih h2
  unfold stp at h1
  split at h1
  ·cases h1
  ·obtain rfl:=Option.some.inj h1
   simp only[List.length_append,List.length_take,List.length_cons,List.length_nil] at h3⊢
   omega
theorem xk {e:List Tok} {i:Nat} (h:i<e.length):e.take (i+1)=e.take i++ [nth e (i:Int)]:=by
 rw[List.take_succ_eq_append_getElem h,bw h]
theorem vm {e:List Tok} {i:Nat} (h:i<e.length) {st:List (Tr Tok)} (h1:run [] (e.take i)=some st) (h2:stp st (nth e (i:Int))=none):run [] e=none:=by
 have:run [] (e.take (i+1))=none:=by rw[xk h,sH,h1];exact h2
 rw[←List.take_append_drop (i+1) e,AK,this];rfl
theorem Nd {e:List Tok} (he:e.length≤1048576):pQ e=some (isX e):=by
 obtain ⟨o,eo,hq⟩:=cJ (f:=nA e) (fun i s=> ∃st,s=((st.length:Int),(i:Int))∧run [] (e.take i)=some st) (fun o=>(o= .ret false∧run [] e=none)∨ ∃st,o= .brk ((st.length:Int),(e.length:Int))∧run [] e=some st) e.length (s:=(0,0)) (by
  rintro i s hi ⟨st,rfl,hst⟩
  have hl:=J9 hst
  simp only[List.length_nil,List.length_take] at hl
  unfold nA
  simp only[fb]
  by_cases c:i<e.length
  ·rw[if_pos (by simp;omega),aj (by omega) (by omega)];simp only[Option.bind_some]
   rw[UC];simp only[Option.bind_some]
   have hr:=sG (nth e (i:Int))
   by_cases c1:ar (nth e (i:Int))<0
   ·refine .inr ⟨_,by rw[if_pos (by simpa using c1)],(fun s' e=>by cases e),.inl ⟨rfl,vm c hst ?_⟩⟩
    rw[stp,if_pos (.inl c1)]
   ·rw[if_neg (by simpa using c1)]
    by_cases c2:ar (nth e (i:Int))>(st.length:Int)
    ·refine .inr ⟨_,by rw[if_pos (by simpa using c2)],(fun s' e=>by cases e),.inl ⟨rfl,vm c hst ?_⟩⟩
     rw[stp,if_pos (.inr c2)]
    ·rw[if_neg (by simpa using c2)]
     refine .inl ⟨c,_,rfl,st.take (st.length - (ar (nth e (i:Int))).toNat)++ [.node (nth e (i:Int)) (st.drop (st.length - (ar (nth e (i:Int))).toNat))],?_,?_⟩
     ·rw[cH (n:=(st.length:Int) - ar (nth e (i:Int))) (by omega) (by omega),cH (by omega) (by omega),aa (by omega)]
      congr 1
      simp only[List.length_append,List.length_take,List.length_cons,List.length_nil]
      omega
     ·rw[xk c,sH,hst]
      show stp st _=_
      rw[stp,if_neg (by omega)]
  ·obtain rfl:i=e.length:=by omega
   rw[List.take_of_length_le (by omega)] at hst
   exact .inr ⟨_,by rw[if_neg (by simp)],(fun s' e=>by cases e),.inr ⟨st,rfl,hst⟩⟩) ⟨[],rfl,rfl⟩ (kp (by omega))
 unfold pQ
 rcases hq with ⟨rfl,h⟩ | ⟨st,rfl,h⟩
 ·rw[bE eo];unfold isX;rw[h]
 ·rw[af eo];unfold isX;rw[h]
  match st with
  | [] =>rfl
  | [_] =>rfl
  | _::_::_=>simp;omega
theorem TK {t:Tok} (h:0≤ar t):(Option.bind ((if t.1==4 then (some (t.1==4)) else (some (t.1==5)):Option Bool)) (fun s3=>if s3 then (some 2) else (Option.bind ((if t.1==6 then (some (t.1==6)) else (some (t.1==7)):Option Bool)) (fun s4=>if s4 then (some 1) else (some 0)))):Option Int)=some (ar t):=by
 rcases lR h with ⟨e,k | k⟩ | ⟨e,k | k⟩ | ⟨e,k | k | k⟩ <;> rw[e] <;> simp[k]
theorem Qr (t:Tok): ∃n:Int,(Option.bind ((if t.1==4 then (some (t.1==4)) else (some (t.1==5)):Option Bool)) (fun s3=>if s3 then (some 2) else (Option.bind ((if t.1==6 then (some (t.1==6)) else (some (t.1==7)):Option Bool)) (fun s4=>if s4 then (some 1) else (some 0)))):Option Int)=some n:=by
 by_cases h4:t.1=4
 ·exact ⟨2,by simp[h4]⟩
 by_cases h5:t.1=5
 ·exact ⟨2,by simp[h5]⟩
 by_cases h6:t.1=6
 ·exact ⟨1,by simp[h6]⟩
 by_cases h7:t.1=7
 ·exact ⟨1,by simp[h7]⟩
 exact ⟨0,by simp[h4,h5,h6,h7]⟩
def uW (e:List Tok):Tr Tok:=match run [] e with
 | some [x] =>x
 | _=>.nil
theorem AL {e:List Tok} (he:e.length≤1048576):k9 e=some (uW e):=by
 obtain ⟨o,eo,hq⟩:=cJ (f:=nH e) (fun i s=> ∃st,s=(st,(i:Int))∧run [] (e.take i)=some st) (fun o=>(o= .ret Tr.nil∧run [] e=none)∨ ∃st,o= .brk (st,(e.length:Int))∧run [] e=some st) e.length (s:=([],0)) (by
  rintro i s hi ⟨st,rfl,hst⟩
  have hl:=J9 hst
  simp only[List.length_nil,List.length_take] at hl
  unfold nH
  simp only[fb]
  by_cases c:i<e.length
  ·rw[if_pos (by simp;omega),aj (by omega) (by omega)];simp only[Option.bind_some]
   have hr:=sG (nth e (i:Int))
   by_cases c1:ar (nth e (i:Int))<0
   ·obtain ⟨n,hn⟩:=Qr (nth e (i:Int))
    rw[hn];simp only[Option.bind_some]
    rw[R6];simp only[Option.bind_some]
    refine .inr ⟨_,by rw[if_neg (by simp;omega)],(fun s' e=>by cases e),.inl ⟨rfl,vm c hst ?_⟩⟩
    rw[stp,if_pos (.inl c1)]
   ·rw[TK (by omega)];simp only[Option.bind_some]
    rw[R6];simp only[Option.bind_some]
    rw[if_pos (by simp;omega),cH (n:=(st.length:Int) - ar (nth e (i:Int))) (by omega) (by omega)]
    by_cases c2:ar (nth e (i:Int))>(st.length:Int)
    ·refine .inr ⟨_,by rw[if_pos (by simp;omega)],(fun s' e=>by cases e),.inl ⟨rfl,vm c hst ?_⟩⟩
     rw[stp,if_pos (.inr c2)]
    ·rw[if_neg (by simp;omega),show∀p:Prop,∀ [Decidable p],p→chk p=some () from fun p _ hp=>by unfold chk;rw[if_pos hp]]
     ·simp only[Option.bind_some]
      have e1:((st.length:Int) - ar (nth e (i:Int))).toNat=st.length - (ar (nth e (i:Int))).toNat:=by omega
      rw[e1,aw (by simp;omega)];simp only[Option.bind_some]
      rw[aw (by simp;omega)];simp only[Option.bind_some,List.nil_append,aa (show i<9223372036854775807 by omega)]
      refine .inl ⟨c,_,rfl,_,rfl,?_⟩
      rw[xk c,sH,hst]
      show stp st _=_
      rw[stp,if_neg (by omega)]
     ·omega
  ·obtain rfl:i=e.length:=by omega
   rw[List.take_of_length_le (by omega)] at hst
   exact .inr ⟨_,by rw[if_neg (by simp)],(fun s' e=>by cases e),.inr ⟨st,rfl,hst⟩⟩) ⟨[],rfl,rfl⟩ (kp (by omega))
 unfold k9
 rcases hq with ⟨rfl,h⟩ | ⟨st,rfl,h⟩
 ·rw[bE eo];unfold uW;rw[h]
 ·rw[af eo];unfold uW;rw[h]
  match st with
  | [] =>rfl
  | [x] =>rfl
  | _::_::_ =>
   simp only
   rw[if_pos (by simp;omega)]
theorem tP {x:Tr Tok} (h:WT x):uW (flat x)=x:=by unfold uW;rw[Nc h];rfl
theorem Nf {e:List Tok} (he:e.length≤1048576):pT e=some (isX e):=by
 unfold pT
 rw[AL he];simp only[Option.bind_some]
 congr 1
 by_cases h:isX e=true
 ·rw[h]
  obtain ⟨x,h1,h2,h3⟩:=J8 h
  have:uW e=x:=by unfold uW;rw[h1]
  rw[this]
  cases h2 with
  | node _ _=>rfl
 ·have:uW e= .nil:=by
   unfold uW
   unfold isX at h
   split
   ·rename_i x hx;rw[hx] at h;exact absurd rfl h
   ·rfl
  rw[this,Bool.eq_false_iff.2 h];rfl
theorem Eh {e:List Tok} (he:e.length≤1048576):iF e=some (decide (e.length≤24)&&isX e):=by
 unfold iF
 rw[Nd he]
 by_cases c:e.length≤24
 ·rw[if_pos (by simp;omega)];simp[c]
 ·rw[if_neg (by simp;omega)];simp[c]
theorem Ei {e:List Tok} (he:e.length≤1048576):iL e=some (decide (e.length≤24)&&isX e):=by
 unfold iL
 rw[Nf he]
 by_cases c:e.length≤24
 ·rw[if_pos (by simp;omega)];simp[c]
 ·rw[if_neg (by simp;omega)];simp[c]
theorem kK {p:Prop} [Decidable p] (h:p):chk p=some ():=by unfold chk;rw[if_pos h]
theorem Qs {A:List Tok} {x:Tr Tok} (hx:WT x) (hl:(A++flat x).length≤1000000):fh (A++flat x)=some (A.length:Int):=by
 obtain ⟨s',e,ks,q1,q2,q3⟩: ∃s',ai (jF (A++flat x)) aD (1,((A++flat x).length:Int))=some (.brk s')∧ ∃ks:List (Tr Tok),ks= [] ∧s'.2=(A.length:Int)∧True:=by
  obtain ⟨o,eo,hq⟩:=cJ (f:=jF (A++flat x)) (fun i s=> ∃ks:List (Tr Tok),(∀k,k∈ks→WT k)∧s=((ks.length:Int),(((A++gS ks).length:Nat):Int))∧i+(gS ks).length=(flat x).length∧(A++flat x).take (A++gS ks).length=A++gS ks) (fun o=> ∃s',o= .brk s'∧s'.2=(A.length:Int)) (flat x).length (s:=(1,((A++flat x).length:Int))) (by
   rintro i s hi ⟨ks,hw,rfl,hlen,htk⟩
   unfold jF
   simp only[fb]
   rcases List.eq_nil_or_concat ks with rfl | ⟨ks',y,rfl⟩
   ·refine .inr ⟨_,by rw[if_neg (by simp)],(fun s' e=>by cases e),_,rfl,?_⟩
    simp[gS]
   ·have hy:=hw y (by simp)
    cases hy with
    | @node t cs h1 h2 =>
     have hfl:gS (ks'++ [.node t cs])=gS (ks'++cs)++ [t]:=by rw[nh,km,flat,nh,List.append_assoc]
     rw[List.concat_eq_append,hfl] at hlen htk⊢
     simp only[List.length_append,List.length_cons,List.length_nil] at hlen htk hl⊢
     rw[if_pos (by simp <;> omega)]
     have hpos:IntKind.i64.wrap (((A.length+((gS (ks'++cs)).length+1):Nat):Int) - 1)=((A.length+(gS (ks'++cs)).length:Nat):Int):=by
      rw[cH (by omega) (by omega)];omega
     have hget:nth (A++flat x) ((A.length+(gS (ks'++cs)).length:Nat):Int)=t:=by
      have hlt:A.length+(gS (ks'++cs)).length<(A++flat x).length:=by rw[List.length_append];omega
      have e1:=congrArg (fun l:List Tok=>l[A.length+(gS (ks'++cs)).length]?) htk
      rw[List.getElem?_take_of_lt (by omega),List.getElem?_eq_getElem hlt,←List.append_assoc,List.getElem?_append_right (by rw[List.length_append];omega),List.length_append] at e1
      rw[bw hlt]
      simpa using e1
     rw[hpos,aj (by omega) (by simp only[List.length_append];omega),hget];simp only[Option.bind_some]
     rw[UC,h1];simp only[Option.bind_some]
     have hcl:(cs.length:Int)≤2:=by rw[←h1];exact (sG t).2
     have hkl:ks'.length≤(gS (ks'++cs)).length+1000000:=by
      have: ∀l:List (Tr Tok),(∀k,k∈l→WT k)→l.length≤(gS l).length:=by
       intro l
       induction l with
       | nil=>intro _;simp
       | cons k l ih =>
        intro h
        have h1:=(h k (by simp)).pos
        have h2:=ih fun k hk=>h k (by simp[hk])
        rw[gS];simp only[List.length_cons,List.length_append];omega
      have:=this ks' fun k hk=>hw k (by simp[hk])
      rw[nh,List.length_append];omega
     refine .inl ⟨by omega,_,rfl,ks'++cs,fun k hk=>?_,?_,by omega,?_⟩
     ·rcases List.mem_append.1 hk with hk | hk
      ·exact hw k (by simp[hk])
      ·exact h2 k hk
     ·rw[cH (n:=((ks'.length+1:Nat):Int) - 1) (by omega) (by omega),cH (by omega) (by omega)]
      congr 1
      (simp only[List.length_append]) <;> omega
     ·have e1:=congrArg (List.take (A++gS (ks'++cs)).length) htk
      rw[List.take_take,Nat.min_eq_left (by rw[List.length_append];omega),←List.append_assoc,List.take_left] at e1
      rw[List.length_append] at e1
      exact e1) ⟨[x],fun k hk=>by (obtain rfl:=List.mem_singleton.1 hk;exact hx),by rw[km];rfl,by rw[km];omega,by rw[km,List.take_length]⟩ (kp (by rw[List.length_append] at hl;omega))
  obtain ⟨s',rfl,h2⟩:=hq
  exact ⟨s',eo,[],rfl,h2,trivial⟩
 unfold fh
 rw[af e,q2]
end D
namespace D
open Go.RowKit
instance trInh {α:Type} :Inhabited (Tr α):=⟨.nil⟩
def szX:Tr Tok→Int
 | .nil=>0
 | .node t ks=>min (szL t 1 ks) 100000
where szL (t:Tok) (acc:Int):List (Tr Tok)→Int
 | [] =>acc
 | k::ks=>szL t (acc+(if t.1=7 then (szX k+3)*t.2.2.2 else szX k)) ks
theorem dy {x:Tr Tok} (h:WT x):1≤szX x∧szX x≤100000:=by
 refine WT.ind (p:=fun x=>1≤szX x∧szX x≤100000) ?_ ?_ ?_ h
 ·intro t _
  show 1≤min (1:Int) 100000∧min (1:Int) 100000≤100000
  omega
 ·intro t a e _ ih
  show 1≤min ((1:Int)+(if t.1=7 then (szX a+3)*t.2.2.2 else szX a)) 100000∧min ((1:Int)+(if t.1=7 then (szX a+3)*t.2.2.2 else szX a)) 100000≤100000
  split
  ·rename_i k
   have hr:=xj (show 0≤ar t by omega) k
   have:0≤(szX a+3)*t.2.2.2:=Int.mul_nonneg (by omega) (by omega)
   omega
  ·omega
 ·intro t a b e _ _ iha ihb
  have k:t.1≠7:=by
   rcases lR (show 0≤ar t by omega) with ⟨_,k⟩ | ⟨k,_⟩ | ⟨k,_⟩ <;> omega
  show 1≤min ((1:Int)+(if t.1=7 then (szX a+3)*t.2.2.2 else szX a)+(if t.1=7 then (szX b+3)*t.2.2.2 else szX b)) 100000∧min ((1:Int)+(if t.1=7 then (szX a+3)*t.2.2.2 else szX a)+(if t.1=7 then (szX b+3)*t.2.2.2 else szX b)) 100000≤100000
  rw[if_neg k,if_neg k]
  omega
theorem CE {a h:Int} (h1:1≤a∧a≤100000) (h2:1≤h∧h≤3):IntKind.i64.wrap ((IntKind.i64.wrap (a+3))*h)=(a+3)*h:=by
 rw[cH (n:=a+3) (by omega) (by omega)]
 have k1:0≤(a+3)*h:=Int.mul_nonneg (by omega) (by omega)
 have k2:(a+3)*h≤100003*3:=Int.mul_le_mul (by omega) (by omega) (by omega) (by omega)
 exact cH (by omega) (by omega)
theorem Ka {a h:Int} (h1:1≤a∧a≤100000) (h2:1≤h∧h≤3):0≤(a+3)*h∧(a+3)*h≤300009:=by
 have k1:0≤(a+3)*h:=Int.mul_nonneg (by omega) (by omega)
 have k2:(a+3)*h≤100003*3:=Int.mul_le_mul (by omega) (by omega) (by omega) (by omega)
 omega
theorem ni {t:Tok} {ks:List (Tr Tok)} :Tr.get (.node t ks)=some (t,ks):=rfl
theorem tQ {f:Tr Tok→Option Int} {t:Tok} {ks:List (Tr Tok)} {i:Nat} {acc:Int} (hi:i<ks.length) (hf:f (nth ks (i:Int))=some (szX (nth ks (i:Int)))) (hw:WT (nth ks (i:Int))) (ht:0≤ar t) (ha:0≤acc∧acc≤1000000) (hik:i≤1000000) :
  aU f (.node t ks) (t,ks) (acc,(i:Int))=some (.nxt (acc+(if t.1=7 then (szX (nth ks (i:Int))+3)*t.2.2.2 else szX (nth ks (i:Int))),((i+1:Nat):Int))):=by
 unfold aU
 simp only[ni]
 have hr:=dy hw
 rw[if_pos (by simp <;> omega),aj (by omega) (by omega)];simp only[Option.bind_some]
 by_cases k:t.1=7
 ·have h7:=xj ht k
  have hm:=Ka hr h7.2
  rw[if_pos (by simpa using k),if_pos k,hf];simp only[Option.bind_some]
  rw[CE hr h7.2,cH (by omega) (by omega),aa (by omega)]
 ·rw[if_neg (by simpa using k),if_neg k,hf];simp only[Option.bind_some]
  rw[cH (by omega) (by omega),aa (by omega)]
theorem vn {α:Type} [Inhabited α] {a:α} {l:List α} :nth (a::l) ((0:Nat):Int)=a:=rfl
theorem Kb {α:Type} [Inhabited α] {a b:α} {l:List α} :nth (a::b::l) ((1:Nat):Int)=b:=rfl
theorem Qt {x:Tr Tok} (h:WT x): ∀n,(flat x).length≤n→bc n x=some (szX x):=by
 refine WT.ind (p:=fun x=> ∀n,(flat x).length≤n→bc n x=some (szX x)) ?_ ?_ ?_ h
 ·intro t e n hn
  rw[ym] at hn
  match n,hn with
  | n+1,_ =>
   rw[bc];simp only[ni,Option.bind_some]
   have hL:ai (aU (bc n) (.node t []) (t,[])) aD (1,0)=some (.brk (1,0)):=aA (f:=aU (bc n) (.node t []) (t,[])) (fun i=>(1,(i:Int))) 0 (fun i hi=>by omega) (by unfold aU;simp) (by unfold aD;omega)
   rw[af hL]
   all_goals rfl
 ·intro t a e wa ih n hn
  rw[AJ,List.length_append] at hn
  match n,hn with
  | n+1,hn =>
   have hr:=dy wa
   rw[bc];simp only[ni,Option.bind_some]
   have hL:ai (aU (bc n) (.node t [a]) (t,[a])) aD (1,0)=some (.brk (szX.szL t 1 [a],1)):=aA (f:=aU (bc n) (.node t [a]) (t,[a])) (fun i=>(szX.szL t 1 ([a].take i),(i:Int))) 1 (fun i hi=>by
    obtain rfl:i=0:=by omega
    exact tQ (acc:=1) (i:=0) (by simp) (ih n (by simp at hn;omega)) wa (by omega) (by omega) (by omega)) (by unfold aU;simp) (by unfold aD;omega)
   rw[af hL]
   all_goals rfl
 ·intro t a b e wa wb iha ihb n hn
  rw[rq,List.length_append,List.length_append] at hn
  match n,hn with
  | n+1,hn =>
   have hra:=dy wa
   have hrb:=dy wb
   have k:t.1≠7:=by
    rcases lR (show 0≤ar t by omega) with ⟨_,k⟩ | ⟨k,_⟩ | ⟨k,_⟩ <;> omega
   rw[bc];simp only[ni,Option.bind_some]
   have hL:ai (aU (bc n) (.node t [a,b]) (t,[a,b])) aD (1,0)=some (.brk (szX.szL t 1 [a,b],2)):=aA (f:=aU (bc n) (.node t [a,b]) (t,[a,b])) (fun i=>(szX.szL t 1 ([a,b].take i),(i:Int))) 2 (fun i hi=>by
    have:i=0∨i=1:=by omega
    rcases this with rfl | rfl
    ·exact tQ (acc:=1) (i:=0) (by simp) (iha n (by simp at hn;omega)) wa (by omega) (by omega) (by omega)
    ·exact tQ (acc:=1+(if t.1=7 then (szX a+3)*t.2.2.2 else szX a)) (i:=1) (by simp) (ihb n (by simp at hn;omega)) wb (by omega) (by rw[if_neg k];omega) (by omega)) (by unfold aU;simp) (by unfold aD;omega)
   rw[af hL]
   all_goals rfl
theorem k7 {A:List Tok} {t:Tok} (h:A.length≤1000000):az (A++ [t]) (IntKind.i64.wrap (((A++ [t]).length:Int) - 1))=some t∧IntKind.i64.wrap (((A++ [t]).length:Int) - 1)=(A.length:Int):=by
 have e:IntKind.i64.wrap (((A++ [t]).length:Int) - 1)=(A.length:Int):=by
  rw[cH (by simp only[List.length_append,List.length_cons,List.length_nil];omega) (by simp only[List.length_append,List.length_cons,List.length_nil];omega)]
  simp only[List.length_append,List.length_cons,List.length_nil];omega
 refine ⟨?_,e⟩
 rw[e,aj (by omega) (by simp only[List.length_append,List.length_cons,List.length_nil];omega),bw (by simp)]
 simp
theorem UD {t:Tok} (h:ar t=2):(if t.1==4 then (some (t.1==4)) else (some (t.1==5)):Option Bool)=some true:=by
 rcases lR (show 0≤ar t by omega) with ⟨_,k | k⟩ | ⟨e,_⟩ | ⟨e,_⟩
 ·simp[k]
 ·simp[k]
 ·omega
 ·omega
theorem Ng {t:Tok} (h:ar t=1∨ar t=0):(if t.1==4 then (some (t.1==4)) else (some (t.1==5)):Option Bool)=some false:=by
 rcases lR (show 0≤ar t by omega) with ⟨e,k⟩ | ⟨e,k | k⟩ | ⟨e,k | k | k⟩
 ·omega
 all_goals simp[k]
theorem R7 {t:Tok} (h:ar t=0):(t.1==6)=false∧(t.1==7)=false:=by
 rcases lR (show 0≤ar t by omega) with ⟨e,k⟩ | ⟨e,k | k⟩ | ⟨e,k | k | k⟩
 ·omega
 ·omega
 ·omega
 all_goals simp[k]
theorem Nh {t:Tok} (h:ar t=1):((t.1==6)=true∧t.1=6)∨((t.1==6)=false∧(t.1==7)=true∧t.1=7):=by
 rcases lR (show 0≤ar t by omega) with ⟨e,k⟩ | ⟨e,k | k⟩ | ⟨e,k | k | k⟩
 ·omega
 ·left;simp[k]
 ·right;simp[k]
 all_goals omega
theorem xl {a b:Tr Tok} {t:Tok} (wb:WT b) (hl:((flat a++flat b)++ [t]).length≤1000000) :
  (((flat a++flat b)++ [t]).take ((((flat a++flat b).length:Nat):Int)).toNat)=flat a++flat b ∧
  fh (flat a++flat b)=some (((flat a).length:Nat):Int) ∧
  (((flat a++flat b)++ [t]).take ((((flat a).length:Nat):Int)).toNat)=flat a ∧
  (flat a++flat b).drop ((((flat a).length:Nat):Int)).toNat=flat b:=by
 refine ⟨?_,Qs wb (by simp only[List.length_append,List.length_cons,List.length_nil] at hl⊢;omega),?_,?_⟩
 ·rw[Int.toNat_natCast,List.take_left]
 ·rw[Int.toNat_natCast,List.append_assoc,List.take_left]
 ·rw[Int.toNat_natCast,List.drop_left]
theorem R8 {x:Tr Tok} (h:WT x): ∀n,(flat x).length≤n→(flat x).length≤1000000→cP n (flat x)=some (szX x):=by
 refine WT.ind (p:=fun x=> ∀n,(flat x).length≤n→(flat x).length≤1000000→cP n (flat x)=some (szX x)) ?_ ?_ ?_ h
 ·intro t e n hn hl
  rw[ym] at hn hl⊢
  match n,hn with
  | n+1,_ =>
   have hk:=R7 e
   rw[cP]
   have:=(k7 (A:=[]) (t:=t) (by simp)).1
   rw[List.nil_append] at this
   rw[this];simp only[Option.bind_some]
   rw[Ng (.inr e)];simp only[Option.bind_some,hk.1,hk.2,Bool.false_eq_true,if_false]
   rfl
 ·intro t a e wa ih n hn hl
  rw[AJ] at hn hl⊢
  simp only[List.length_append,List.length_cons,List.length_nil] at hn hl
  match n,hn with
  | n+1,hn =>
   have hr:=dy wa
   rw[cP]
   obtain ⟨l1,l2⟩:=k7 (A:=flat a) (t:=t) (by omega)
   rw[l1];simp only[Option.bind_some]
   rw[Ng (.inl e)];simp only[Option.bind_some,Bool.false_eq_true,if_false]
   rw[l2,Int.toNat_natCast,List.take_left,kK (by simp only[List.length_append,List.length_cons,List.length_nil];omega)];simp only[Option.bind_some]
   rw[ih n (by omega) (by omega)];simp only[Option.bind_some]
   rcases Nh e with ⟨k1,k2⟩ | ⟨k1,k2,k3⟩
   ·rw[if_pos k1,cH (by omega) (by omega)]
    show some (min 100000 (szX a+1))=some (min ((1:Int)+(if t.1=7 then (szX a+3)*t.2.2.2 else szX a)) 100000)
    rw[if_neg (by omega)]
    congr 1;omega
   ·have h7:=xj (show 0≤ar t by omega) k3
    have hm:=Ka hr h7.2
    rw[if_neg (by simp[k1]),if_pos k2,CE hr h7.2,cH (by omega) (by omega)]
    show some (min 100000 ((szX a+3)*t.2.2.2+1))=some (min ((1:Int)+(if t.1=7 then (szX a+3)*t.2.2.2 else szX a)) 100000)
    rw[if_pos k3]
    congr 1;omega
 ·intro t a b e wa wb iha ihb n hn hl
  rw[rq] at hn hl⊢
  obtain ⟨p1,p2,p3,p4⟩:=xl (a:=a) (t:=t) wb hl
  simp only[List.length_append,List.length_cons,List.length_nil] at hn hl
  match n,hn with
  | n+1,hn =>
   have hra:=dy wa
   have hrb:=dy wb
   have k:t.1≠7:=by
    rcases lR (show 0≤ar t by omega) with ⟨_,k⟩ | ⟨k,_⟩ | ⟨k,_⟩ <;> omega
   rw[cP]
   obtain ⟨l1,l2⟩:=k7 (A:=flat a++flat b) (t:=t) (by rw[List.length_append];omega)
   rw[l1];simp only[Option.bind_some]
   rw[UD e];simp only[Option.bind_some,if_true]
   rw[l2,p1,p2,kK (by simp only[List.length_append,List.length_cons,List.length_nil];omega)];simp only[Option.bind_some]
   rw[kK (by simp only[List.length_append,List.length_cons,List.length_nil];omega),p3,p4];simp only[Option.bind_some]
   rw[iha n (by omega) (by omega),kK (by simp only[List.length_append,List.length_cons,List.length_nil];omega)];simp only[Option.bind_some]
   rw[ihb n (by have:=wa.pos;omega) (by omega)];simp only[Option.bind_some]
   rw[cH (n:=szX a+szX b) (by omega) (by omega),cH (by omega) (by omega)]
   show some (min 100000 (szX a+szX b+1))=some (min ((1:Int)+(if t.1=7 then (szX a+3)*t.2.2.2 else szX a)+(if t.1=7 then (szX b+3)*t.2.2.2 else szX b)) 100000)
   rw[if_neg k,if_neg k]
   congr 1;omega
def Ni:Tr Tok:=.node (2,0,0,0) []
def Ej (x:Tr Tok):Nat→Int→Tr Tok
 | 0,_=>Ni
 | h+1,low=>if 0<low then .node (4,0,0,0) [x,Ej x h (max 0 (low - 1))] else .node (5,0,0,0) [.node (4,0,0,0) [x,Ej x h (max 0 (low - 1))],Ni]
mutual
def oD:Tr Tok→Tr Tok
 | .nil=>.nil
 | .node t ks=>if t.1=7 then Ej ((KX ks).headD .nil) t.2.2.2.toNat t.2.2.1 else .node t (KX ks)
def KX:List (Tr Tok)→List (Tr Tok)
 | [] =>[]
 | k::ks=>oD k::KX ks
end
theorem ar4:ar (4,0,0,0)=2:=by decide
theorem ar5:ar (5,0,0,0)=2:=by decide
theorem ar2:ar (2,0,0,0)=0:=by decide
theorem Kc:WT Ni:=.node ar2 fun k hk=>by cases hk
theorem sI:flat Ni= [(2,0,0,0)]:=ym _
theorem WT.two {t:Tok} {a b:Tr Tok} (h:ar t=2) (ha:WT a) (hb:WT b):WT (.node t [a,b]):=.node h fun k hk=>by
 rcases List.mem_cons.1 hk with rfl | hk
 ·exact ha
 ·obtain rfl:=List.mem_singleton.1 hk
  exact hb
theorem WT.one {t:Tok} {a:Tr Tok} (h:ar t=1) (ha:WT a):WT (.node t [a]):=.node h fun k hk=>by
 obtain rfl:=List.mem_singleton.1 hk
 exact ha
theorem Ek {x:Tr Tok} (hx:WT x): ∀(h:Nat) (low:Int),WT (Ej x h low)
 | 0,_=>Kc
 | h+1,low=>by
  rw[Ej]
  split
  ·exact .two ar4 hx (Ek hx h _)
  ·exact .two ar5 (.two ar4 hx (Ek hx h _)) Kc
theorem AM (x:Tr Tok): ∀(h:Nat) (low:Int),(flat (Ej x h low)).length≤((flat x).length+3)*h+1
 | 0,_=>by rw[Ej,sI];simp
 | h+1,low=>by
  have ih:=AM x h (max 0 (low - 1))
  rw[Ej]
  split
  ·rw[rq];simp only[List.length_append,List.length_cons,List.length_nil]
   rw[Nat.mul_succ];omega
  ·rw[rq,rq,sI];simp only[List.length_append,List.length_cons,List.length_nil]
   rw[Nat.mul_succ];omega
theorem S6 {t:Tok} {a:Tr Tok} :oD (.node t [a])=if t.1=7 then Ej (oD a) t.2.2.2.toNat t.2.2.1 else .node t [oD a]:=by rw[oD,KX,KX];rfl
theorem exp2 {t:Tok} {a b:Tr Tok} (h:t.1≠7):oD (.node t [a,b])= .node t [oD a,oD b]:=by rw[oD,if_neg h,KX,KX,KX]
theorem S7 {t:Tok} (h:t.1≠7):oD (.node t [])= .node t []:=by rw[oD,if_neg h,KX]
theorem no7 {t:Tok} (h:ar t=2∨ar t=0):t.1≠7:=by
 rcases lR (show 0≤ar t by omega) with ⟨_,k⟩ | ⟨k,_⟩ | ⟨_,k⟩ <;> omega
theorem Ou {x:Tr Tok} (h:WT x):WT (oD x):=by
 refine WT.ind (p:=fun x=>WT (oD x)) ?_ ?_ ?_ h
 ·intro t e
  rw[S7 (no7 (.inr e))]
  exact .node e fun k hk=>by cases hk
 ·intro t a e _ ih
  rw[S6]
  split
  ·exact Ek ih _ _
  ·exact .one e ih
 ·intro t a b e _ _ iha ihb
  rw[exp2 (no7 (.inl e))]
  exact .two e iha ihb
theorem AN {x:Tr Tok} (h:WT x):szX x<100000→((flat (oD x)).length:Int)≤szX x:=by
 refine WT.ind (p:=fun x=>szX x<100000→((flat (oD x)).length:Int)≤szX x) ?_ ?_ ?_ h
 ·intro t e _
  rw[S7 (no7 (.inr e)),ym]
  show (1:Int)≤min 1 100000
  omega
 ·intro t a e wa ih hs
  have hr:=dy wa
  have hs':min ((1:Int)+(if t.1=7 then (szX a+3)*t.2.2.2 else szX a)) 100000<100000:=hs
  show _≤min ((1:Int)+(if t.1=7 then (szX a+3)*t.2.2.2 else szX a)) 100000
  rw[S6]
  by_cases k:t.1=7
  ·rw[if_pos k] at hs'⊢
   rw[if_pos k]
   have h7:=xj (show 0≤ar t by omega) k
   have hge:szX a+3≤(szX a+3)*t.2.2.2:=by
    have:=Int.mul_le_mul_of_nonneg_left (c:=szX a+3) h7.2.1 (by omega)
    omega
   have h1:=ih (by omega)
   have h2:=AM (oD a) t.2.2.2.toNat t.2.2.1
   have h3:(((flat (oD a)).length+3)*t.2.2.2.toNat:Int)≤(szX a+3)*t.2.2.2:=by
    rw[Int.toNat_of_nonneg (by omega)]
    exact Int.mul_le_mul_of_nonneg_right (by omega) (by omega)
   have h4:((flat (Ej (oD a) t.2.2.2.toNat t.2.2.1)).length:Int)≤(((flat (oD a)).length+3)*t.2.2.2.toNat:Int)+1:=by exact_mod_cast h2
   omega
  ·rw[if_neg k] at hs'⊢
   rw[if_neg k,AJ]
   have h1:=ih (by omega)
   simp only[List.length_append,List.length_cons,List.length_nil]
   omega
 ·intro t a b e wa wb iha ihb hs
  have hra:=dy wa
  have hrb:=dy wb
  have k:=no7 (.inl e)
  have hs':min ((1:Int)+(if t.1=7 then (szX a+3)*t.2.2.2 else szX a)+(if t.1=7 then (szX b+3)*t.2.2.2 else szX b)) 100000<100000:=hs
  show _≤min ((1:Int)+(if t.1=7 then (szX a+3)*t.2.2.2 else szX a)+(if t.1=7 then (szX b+3)*t.2.2.2 else szX b)) 100000
  rw[if_neg k,if_neg k] at hs'⊢
  rw[exp2 k,rq]
  have h1:=iha (by omega)
  have h2:=ihb (by omega)
  simp only[List.length_append,List.length_cons,List.length_nil]
  omega
theorem zh {x:Tr Tok} : ∀(h n:Nat) (low:Int),h<n→h≤3→0≤low→low≤3→hO n x low (h:Int)=some (Ej x h low)
 | 0,n+1,low,_,_,_,_=>by
  rw[hO,if_pos (by rfl)];rfl
 | h+1,n+1,low,h1,h2,h3,h4=>by
  rw[hO,if_neg (by simp;omega),cH (n:=low - 1) (by omega) (by omega),cH (n:=((h+1:Nat):Int) - 1) (by omega) (by omega)]
  rw[show ((h+1:Nat):Int) - 1=(h:Int) from by omega,zh h n (max 0 (low - 1)) (by omega) (by omega) (by omega) (by omega)];simp only[Option.bind_some]
  rw[Ej]
  by_cases c:0<low
  ·rw[if_pos (by simpa using c),if_pos c]
  ·rw[if_neg (by simpa using c),if_neg c];rfl
theorem FI {a b:List Tok} {t:Tok} (h:a.length+b.length≤1000000):jk a b t=some ((a++b)++ [t]):=by
 unfold jk jj
 rw[aw (by simp only[List.length_append,List.length_cons,List.length_nil];omega)];simp only[Option.bind_some,List.nil_append]
 rw[aw (by omega)];simp only[Option.bind_some]
 rw[aw (by simp only[List.length_append,List.length_cons,List.length_nil];omega)];rfl
theorem Ke {x:Tr Tok} : ∀(h n:Nat) (low:Int),h<n→h≤3→0≤low→low≤3→(flat x).length≤100000→gX n (flat x) low (h:Int)=some (flat (Ej x h low))
 | 0,n+1,low,_,_,_,_,_=>by
  rw[gX,if_pos (by rfl),Ej,sI];rfl
 | h+1,n+1,low,h1,h2,h3,h4,h5=>by
  rw[gX,if_neg (by simp;omega),cH (n:=low - 1) (by omega) (by omega),cH (n:=((h+1:Nat):Int) - 1) (by omega) (by omega)]
  rw[show ((h+1:Nat):Int) - 1=(h:Int) from by omega,Ke h n (max 0 (low - 1)) (by omega) (by omega) (by omega) (by omega) h5];simp only[Option.bind_some]
  have hl:=AM x h (max 0 (low - 1))
  have hl3:((flat x).length+3)*h≤100003*3:=Nat.mul_le_mul (by omega) (by omega)
  rw[FI (by omega),Ej];simp only[Option.bind_some]
  by_cases c:0<low
  ·rw[if_pos (by simpa using c),if_pos c,rq]
  ·rw[if_neg (by simpa using c),if_neg c,rq,rq,sI]
   show (mM 2).bind _=_
   unfold mM;simp only[Option.bind_some]
   rw[FI (by simp only[List.length_append,List.length_cons,List.length_nil];omega)];rfl
theorem sJ:1000000000000≤eK:=by rw[Lf];unfold aD;omega
theorem Nj {x:Tr Tok} (h:WT x): ∀n,(flat x).length≤n→aR n x=some (oD x):=by
 have hF:=sJ
 refine WT.ind (p:=fun x=> ∀n,(flat x).length≤n→aR n x=some (oD x)) ?_ ?_ ?_ h
 ·intro t e n hn
  rw[ym] at hn
  have k:=no7 (.inr e)
  match n,hn with
  | n+1,_ =>
   rw[aR];simp only[ni,Option.bind_some]
   rw[if_neg (by simpa using k),S7 k]
   have hL:ai (aN (aR n) (t,[])) aD (0,t.1,t.2.1,t.2.2.1,t.2.2.2,[])=some (.brk (0,t.1,t.2.1,t.2.2.1,t.2.2.2,[])):=aA (f:=aN (aR n) (t,[])) (fun i=>((i:Int),t.1,t.2.1,t.2.2.1,t.2.2.2,KX (([] :List (Tr Tok)).take i))) 0 (fun i hi=>by omega) (by unfold aN;simp) (by unfold aD;omega)
   rw[af hL]
   all_goals rfl
 ·intro t a e wa ih n hn
  rw[AJ,List.length_append] at hn
  match n,hn with
  | n+1,hn =>
   have ia:=ih n (by simp at hn;omega)
   rw[aR,S6];simp only[ni,Option.bind_some]
   rcases Nh e with ⟨k1,k2⟩ | ⟨k1,k2,k3⟩
   ·rw[if_neg (by simp;omega),if_neg (by omega)]
    have hL:ai (aN (aR n) (t,[a])) aD (0,t.1,t.2.1,t.2.2.1,t.2.2.2,[])=some (.brk (1,t.1,t.2.1,t.2.2.1,t.2.2.2,[oD a])):=aA (f:=aN (aR n) (t,[a])) (fun i=>((i:Int),t.1,t.2.1,t.2.2.1,t.2.2.2,[oD a].take i)) 1 (fun i hi=>by
     obtain rfl:i=0:=by omega
     unfold aN
     simp only
     rw[if_pos (by simp),aj (by omega) (by simp),vn];simp only[Option.bind_some]
     rw[ia];simp only[Option.bind_some]
     rw[aw (by simp)];rfl) (by unfold aN;simp) (by unfold aD;omega)
    rw[af hL]
    all_goals rfl
   ·have h7:=xj (show 0≤ar t by omega) k3
    rw[if_pos k2,if_pos k3,show az [a] 0=some a from rfl];simp only[Option.bind_some]
    rw[ia];simp only[Option.bind_some]
    have:=zh (x:=oD a) t.2.2.2.toNat eK t.2.2.1 (by omega) (by omega) (by omega) (by omega)
    rw[Int.toNat_of_nonneg (by omega)] at this
    rw[this];rfl
 ·intro t a b e wa wb iha ihb n hn
  rw[rq,List.length_append,List.length_append] at hn
  have k:=no7 (.inl e)
  match n,hn with
  | n+1,hn =>
   have ia:=iha n (by simp at hn;omega)
   have ib:=ihb n (by simp at hn;omega)
   rw[aR,exp2 k];simp only[ni,Option.bind_some]
   rw[if_neg (by simpa using k)]
   have hL:ai (aN (aR n) (t,[a,b])) aD (0,t.1,t.2.1,t.2.2.1,t.2.2.2,[])=some (.brk (2,t.1,t.2.1,t.2.2.1,t.2.2.2,[oD a,oD b])):=aA (f:=aN (aR n) (t,[a,b])) (fun i=>((i:Int),t.1,t.2.1,t.2.2.1,t.2.2.2,[oD a,oD b].take i)) 2 (fun i hi=>by
    have:i=0∨i=1:=by omega
    rcases this with rfl | rfl
    ·unfold aN
     simp only
     rw[if_pos (by simp),aj (by omega) (by simp),vn];simp only[Option.bind_some]
     rw[ia];simp only[Option.bind_some]
     rw[aw (by simp)];rfl
    ·unfold aN
     simp only
     rw[if_pos (by simp),aj (by omega) (by simp),Kb];simp only[Option.bind_some]
     rw[ib];simp only[Option.bind_some]
     rw[aw (by simp)];rfl) (by unfold aN;simp) (by unfold aD;omega)
   rw[af hL]
   all_goals rfl
theorem Kf {x:Tr Tok} (h:WT x): ∀n out,(flat x).length≤n→out.length+(flat x).length≤1000000→aP n x out=some (out++flat x):=by
 refine WT.ind (p:=fun x=> ∀n out,(flat x).length≤n→out.length+(flat x).length≤1000000→aP n x out=some (out++flat x)) ?_ ?_ ?_ h
 ·intro t e n out hn hl
  rw[ym] at hn hl⊢
  simp only[List.length_cons,List.length_nil] at hl
  match n,hn with
  | n+1,_ =>
   rw[aP];simp only[ni,Option.bind_some]
   have hL:ai (aL (aP n) (t,[])) aD (0,out)=some (.brk (0,out)):=aA (f:=aL (aP n) (t,[])) (fun i=>((i:Int),out)) 0 (fun i hi=>by omega) (by unfold aL;simp) (by unfold aD;omega)
   rw[af hL]
   simp only
   rw[aw (by simp;omega)];rfl
 ·intro t a e wa ih n out hn hl
  rw[AJ] at hn hl⊢
  simp only[List.length_append,List.length_cons,List.length_nil] at hn hl
  match n,hn with
  | n+1,hn =>
   rw[aP];simp only[ni,Option.bind_some]
   have hL:ai (aL (aP n) (t,[a])) aD (0,out)=some (.brk (1,out++flat a)):=aA (f:=aL (aP n) (t,[a])) (fun i=>((i:Int),if i=0 then out else out++flat a)) 1 (fun i hi=>by
    obtain rfl:i=0:=by omega
    unfold aL
    simp only
    rw[if_pos (by simp),aj (by omega) (by simp),vn];simp only[Option.bind_some,if_true]
    rw[ih n _ (by omega) (by omega)];rfl) (by unfold aL;simp) (by unfold aD;omega)
   rw[af hL]
   simp only
   rw[aw (by simp;omega)];simp
 ·intro t a b e wa wb iha ihb n out hn hl
  rw[rq] at hn hl⊢
  simp only[List.length_append,List.length_cons,List.length_nil] at hn hl
  match n,hn with
  | n+1,hn =>
   rw[aP];simp only[ni,Option.bind_some]
   have hL:ai (aL (aP n) (t,[a,b])) aD (0,out)=some (.brk (2,(out++flat a)++flat b)):=aA (f:=aL (aP n) (t,[a,b])) (fun i=>((i:Int),if i=0 then out else if i=1 then out++flat a else (out++flat a)++flat b)) 2 (fun i hi=>by
    have:i=0∨i=1:=by omega
    rcases this with rfl | rfl
    ·unfold aL
     simp only
     rw[if_pos (by simp),aj (by omega) (by simp),vn];simp only[Option.bind_some,if_true]
     rw[iha n _ (by omega) (by omega)];rfl
    ·unfold aL
     simp only
     rw[if_pos (by simp),aj (by omega) (by simp),Kb];simp only[Option.bind_some,if_true]
     rw[ihb n _ (by omega) (by simp;omega)];rfl) (by unfold aL;simp) (by unfold aD;omega)
   rw[af hL]
   simp only
   rw[aw (by simp;omega)];simp
theorem Nk {x:Tr Tok} (h:WT x): ∀n,(flat x).length≤n→(flat x).length≤1000000→szX x≤50000→bP n (flat x)=some (flat (oD x)):=by
 have hF:=sJ
 refine WT.ind (p:=fun x=> ∀n,(flat x).length≤n→(flat x).length≤1000000→szX x≤50000→bP n (flat x)=some (flat (oD x))) ?_ ?_ ?_ h
 ·intro t e n hn hl hs
  rw[ym] at hn hl⊢
  match n,hn with
  | n+1,_ =>
   have hk:=R7 e
   rw[bP]
   have:=(k7 (A:=[]) (t:=t) (by simp)).1
   rw[List.nil_append] at this
   rw[this];simp only[Option.bind_some]
   rw[Ng (.inr e)];simp only[Option.bind_some,hk.1,hk.2,Bool.false_eq_true,if_false]
   rw[S7 (no7 (.inr e)),ym]
 ·intro t a e wa ih n hn hl hs
  have hs':min ((1:Int)+(if t.1=7 then (szX a+3)*t.2.2.2 else szX a)) 100000≤50000:=hs
  rw[AJ] at hn hl⊢
  simp only[List.length_append,List.length_cons,List.length_nil] at hn hl
  match n,hn with
  | n+1,hn =>
   have hr:=dy wa
   have hsa:szX a≤50000:=by
    by_cases k:t.1=7
    ·rw[if_pos k] at hs'
     have h7:=xj (show 0≤ar t by omega) k
     have hge:szX a+3≤(szX a+3)*t.2.2.2:=by
      have:=Int.mul_le_mul_of_nonneg_left (c:=szX a+3) h7.2.1 (by omega)
      omega
     omega
    ·rw[if_neg k] at hs';omega
   have hla:=AN wa (by omega)
   rw[bP]
   obtain ⟨l1,l2⟩:=k7 (A:=flat a) (t:=t) (by omega)
   rw[l1];simp only[Option.bind_some]
   rw[Ng (.inl e)];simp only[Option.bind_some,Bool.false_eq_true,if_false]
   rw[l2,Int.toNat_natCast,List.take_left,kK (by simp only[List.length_append,List.length_cons,List.length_nil];omega)];simp only[Option.bind_some]
   rw[ih n (by omega) (by omega) hsa,S6];simp only[Option.bind_some]
   rcases Nh e with ⟨k1,k2⟩ | ⟨k1,k2,k3⟩
   ·rw[if_pos k1,if_neg (by omega),FI (by simp;omega),AJ];simp
   ·have h7:=xj (show 0≤ar t by omega) k3
    rw[if_neg (by simp[k1]),if_pos k2,if_pos k3]
    have:=Ke (x:=oD a) t.2.2.2.toNat eK t.2.2.1 (by omega) (by omega) (by omega) (by omega) (by omega)
    rw[Int.toNat_of_nonneg (by omega)] at this
    rw[this];rfl
 ·intro t a b e wa wb iha ihb n hn hl hs
  have k:=no7 (.inl e)
  have hs':min ((1:Int)+(if t.1=7 then (szX a+3)*t.2.2.2 else szX a)+(if t.1=7 then (szX b+3)*t.2.2.2 else szX b)) 100000≤50000:=hs
  rw[if_neg k,if_neg k] at hs'
  rw[rq] at hn hl⊢
  obtain ⟨p1,p2,p3,p4⟩:=xl (a:=a) (t:=t) wb hl
  simp only[List.length_append,List.length_cons,List.length_nil] at hn hl
  match n,hn with
  | n+1,hn =>
   have hra:=dy wa
   have hrb:=dy wb
   have hla:=AN wa (by omega)
   have hlb:=AN wb (by omega)
   rw[bP]
   obtain ⟨l1,l2⟩:=k7 (A:=flat a++flat b) (t:=t) (by rw[List.length_append];omega)
   rw[l1];simp only[Option.bind_some]
   rw[UD e];simp only[Option.bind_some,if_true]
   rw[l2,p1,p2,kK (by simp only[List.length_append,List.length_cons,List.length_nil];omega)];simp only[Option.bind_some]
   rw[kK (by simp only[List.length_append,List.length_cons,List.length_nil];omega),p3,p4];simp only[Option.bind_some]
   rw[iha n (by omega) (by omega) (by omega),kK (by simp only[List.length_append,List.length_cons,List.length_nil];omega)];simp only[Option.bind_some]
   rw[ihb n (by have:=wa.pos;omega) (by omega) (by omega)];simp only[Option.bind_some]
   rw[FI (by omega),exp2 k,rq];rfl
def Hg (e:List Tok):List Tok×Bool:=
 if decide (e.length≤24)&&isX e then (if 5000<szX (uW e) then ([],false) else (if 400<(flat (oD (uW e))).length then ([],false) else (flat (oD (uW e)),true))) else ([],false)
theorem El {e:List Tok} (he:e.length≤1048576):jG e=some (Hg e)∧jO e=some (Hg e):=by
 have hF:=sJ
 unfold jG jO Hg
 rw[Eh he,Ei he];simp only[Option.bind_some]
 by_cases c:(decide (e.length≤24)&&isX e)=true
 ·rw[if_pos c,if_pos c,if_pos c,AL he];simp only[Option.bind_some]
  rw[Bool.and_eq_true] at c
  obtain ⟨x,h1,hw,rfl⟩:=J8 c.2
  have h24:(flat x).length≤24:=by simpa using c.1
  have hr:=dy hw
  rw[tP hw,R8 hw eK (by omega) (by omega),Qt hw eK (by omega)];simp only[Option.bind_some]
  by_cases c2:5000<szX x
  ·have c2':decide (szX x>5000)=true:=by simpa using c2
   simp only[gt_iff_lt,c2,decide_true,if_true,and_self]
  ·have c2':decide (szX x>5000)=false:=by simpa using c2
   simp only[gt_iff_lt,c2,decide_false,if_false,Bool.false_eq_true]
   have hl:=AN hw (by omega)
   rw[Nk hw eK (by omega) (by omega) (by omega),Nj hw eK (by omega)];simp only[Option.bind_some]
   unfold nI
   rw[Kf (Ou hw) eK [] (by omega) (by simp;omega)];simp only[Option.bind_some,List.nil_append]
   by_cases c3:400<(flat (oD x)).length
   ·have c3':decide (((flat (oD x)).length:Int)>400)=true:=decide_eq_true (by omega)
    simp only[c3',c3,decide_true,if_true,and_self]
   ·have c3':decide (((flat (oD x)).length:Int)>400)=false:=decide_eq_false (by omega)
    simp only[c3',c3,decide_false,if_false,Bool.false_eq_true,and_self]
 ·rw[if_neg c,if_neg c,if_neg c];exact ⟨rfl,rfl⟩
theorem Qu {e:List Tok} (h:(Hg e).2=true): ∃y,WT y∧(Hg e).1=flat y∧(flat y).length≤400:=by
 unfold Hg at h⊢
 split at h
 ·rename_i c
  rw[if_pos c]
  rw[Bool.and_eq_true] at c
  obtain ⟨x,h1,hw,rfl⟩:=J8 c.2
  rw[tP hw] at h⊢
  split at h
  ·cases h
  ·rename_i c2
   rw[if_neg c2]
   split at h
   ·cases h
   ·rename_i c3
    rw[if_neg c3]
    exact ⟨_,Ou hw,rfl,by omega⟩
 ·cases h
end D
namespace D
open Go.RowKit
def Kg (out:List Bool) (t:Int):Bool:=decide (t≥0)&&nth out t
def hit (out:List Bool) (row:List Int):Bool:=row.any (Kg out)
def uI (a:AutT) (out:List Bool) (s:Nat):List Bool:=if hit out (nth a.2.2 s) then out.set s true else out
def il (a:AutT) (out:List Bool):Nat→List Bool
 | 0=>out
 | s+1=>uI a (il a out s) s
def cnt (out:List Bool):Nat:=out.count true
theorem R9 (out:List Bool):cnt out≤out.length:=List.count_le_length
theorem FJ {out:List Bool} {s:Nat} (h:s<out.length) (k:out[s] =true):out.set s true=out:=by
 refine List.ext_getElem (by simp) fun i h1 h2=>?_
 rw[List.getElem_set]
 split
 ·rename_i e;subst e;exact k.symm
 ·rfl
theorem Qv {out:List Bool} {s:Nat} (h:s<out.length) (k:out[s] =false):cnt (out.set s true)=cnt out+1:=by
 unfold cnt
 rw[List.count_set h];simp[k]
section
variable {a:AutT} {n:Nat}
theorem AO (a:AutT) (out:List Bool) (s:Nat):(uI a out s).length=out.length:=by unfold uI;split <;> simp
theorem iZ (a:AutT) (out:List Bool): ∀s,(il a out s).length=out.length
 | 0=>rfl
 | s+1=>by rw[il,AO,iZ a out s]
theorem uJ {out:List Bool} {s:Nat} (h:s<out.length):(uI a out s=out∧ ¬(hit out (nth a.2.2 s)=true∧nth out s=false))∨(cnt (uI a out s)=cnt out+1∧hit out (nth a.2.2 s)=true∧nth out s=false):=by
 unfold uI
 rw[bw h]
 cases hh:hit out (nth a.2.2 s) with
 | false=>exact .inl ⟨by simp,by simp⟩
 | true =>
  cases hk:out[s] with
  | true=>exact .inl ⟨by simp[FJ h hk],by simp⟩
  | false=>exact .inr ⟨by simp[Qv h hk],rfl,rfl⟩
theorem tR {out:List Bool} : ∀s,s≤out.length→(il a out s=out∧cnt (il a out s)=cnt out)∨cnt out<cnt (il a out s)
 | 0,_=>.inl ⟨rfl,rfl⟩
 | s+1,hs=>by
  have hl:s<(il a out s).length:=by rw[iZ];omega
  have ih:=tR (out:=out) s (by omega)
  rw[il]
  rcases uJ (a:=a) hl with ⟨e,-⟩ | ⟨e,-,-⟩
  ·rw[e];exact ih
  ·rcases ih with ⟨-,h2⟩ | h
   ·exact .inr (by omega)
   ·exact .inr (by omega)
def it (a:AutT):Nat→List Bool
 | 0=>a.2.1
 | j+1=>il a (it a j) a.2.1.length
theorem nj (a:AutT): ∀j,(it a j).length=a.2.1.length
 | 0=>rfl
 | j+1=>by rw[it,iZ,nj a j]
theorem Ov (a:AutT) (j:Nat):cnt (it a j)≤a.2.1.length:=by rw[←nj a j];exact R9 _
theorem Em (a:AutT) (j:Nat):(it a (j+1)=it a j)∨cnt (it a j)<cnt (it a (j+1)):=by
 rcases tR (a:=a) (out:=it a j) a.2.1.length (by rw[nj];exact Nat.le_refl _) with h | h
 ·exact .inl h.1
 ·exact .inr h
theorem Ow {j k:Nat} (h:it a (j+1)=it a j) (hk:j≤k):it a k=it a j:=by
 induction hk with
 | refl=>rfl
 | step _ ih=>rw[it,ih];exact h
theorem Kh {j k:Nat} (h:it a (j+1)=it a j) (h':it a (k+1)=it a k):it a j=it a k:=by
 rcases Nat.le_total j k with e | e
 ·exact (Ow h e).symm
 ·exact Ow h' e
theorem Qw (a : AutT) : it a (a.2.1.length + 1) = it a a.2.1.length := by
  have key : ∀ j, it a (j + 1) = it a j ∨ j + 1 ≤ cnt (it a (j + 1)) := by
    intro j
    induction j with
    | zero => rcases Em a 0 with h | h
              · exact .inl h
              · exact .inr (by omega)
    | succ j ih =>
      rcases Em a (j + 1) with h | h
      · exact .inl h
      · rcases ih with h' | h'
        · left; rw [it, h']; exact h'
        · exact .inr (by omega)
  rcases key a.2.1.length with h | h
  · exact h
  · have := Ov a (a.2.1.length + 1); omega
def live (a:AutT):List Bool:=it a a.2.1.length
theorem rr (a:AutT):(live a).length=a.2.1.length:=nj a _
theorem FK {α:Type} [Inhabited α] {row:List α} {p:α→Bool} {k:Nat} (h:k<row.length):(row.take (k+1)).any p=((row.take k).any p || p (nth row (k:Int))):=by
 rw[List.take_succ_eq_append_getElem h,List.any_append,bw h];simp
section
variable (V:VA a n) (hn:n≤1000000)
include V hn
theorem Ki {out:List Bool} {s:Nat} (hs:s<n) (hl:out.length=n):ai (gh a (out,(s:Int))) aD (out,0)=some (.brk (uI a out s,9)):=by
 have hr:=V.rowAt (s:=s) (by omega) (by omega)
 have hls:s<out.length:=by omega
 have:=aA (f:=gh a (out,(s:Int))) (fun k=>(if ((nth a.2.2 (s:Int)).take k).any (Kg out) then out.set s true else out,(k:Int))) 9 (fun k hk=>by
  unfold gh
  simp only
  rw[if_pos (by simp;omega),V.get (by omega) (by omega)];simp only[Option.bind_some]
  rw[V.get2 (by omega) (by omega) hk];simp only[Option.bind_some]
  rw[FK (by omega),show nth (nth a.2.2 (s:Int)) (k:Int)=mv a s k from rfl]
  simp only[aa (show k<9223372036854775807 by omega)]
  by_cases c:mv a s k≥0
  ·have hset:(out.set s true).length=n:=by simp[hl]
   have hm:=(V.mv (s:=s) (k:=k) (by omega) (by omega) hk).2
   rw[if_pos (by simpa using c)]
   by_cases q:((nth a.2.2 (s:Int)).take k).any (Kg out)=true
   ·simp only[q,if_true,Bool.true_or]
    rw[aj c (by rw[hset];exact hm),aj (by omega) (by rw[hset];omega)];simp only[Option.bind_some,Int.toNat_natCast]
    split <;> simp
   ·simp only[q,Bool.false_eq_true,if_false,Bool.false_or,Kg]
    rw[aj c (by rw[hl];exact hm),aj (by omega) (by rw[hl];omega)];simp only[Option.bind_some,Int.toNat_natCast]
    cases hc:nth out (mv a s k) <;> simp[hc,c]
  ·rw[if_neg (by simpa using c)]
   simp[Kg,c]) (by unfold gh;simp) (by unfold aD;omega)
 have e9:(nth a.2.2 (s:Int)).take 9=nth a.2.2 (s:Int):=List.take_of_length_le (by omega)
 rw[e9] at this
 exact this
theorem CF {out:List Bool} (hl:out.length=n):ai (gi a) aD (out,0)=some (.brk (il a out n,(n:Int))):=by
 have hlen:=V.len
 refine aA (f:=gi a) (fun s=>(il a out s,(s:Int))) n (fun s hs=>?_) ?_ (kp (by omega))
 ·unfold gi
  simp only
  rw[if_pos (by simp;omega),af (Ki V hn hs (by rw[iZ];exact hl)),aa (by omega)]
  rfl
 ·unfold gi
  simp only
  rw[if_neg (by simp;omega)]
theorem Ox:jl a=some (live a):=by
 have hlen:=V.len
 unfold jl
 rw[aw (by simp;omega)];simp only[Option.bind_some,List.nil_append]
 have:=aA (f:=jI a) (fun j=>(it a j,(j:Int))) n (fun j hj=>by
  unfold jI
  simp only
  rw[if_pos (by simp;omega),af (CF V hn (by rw[nj];exact hlen)),aa (by omega),it,hlen]) (by
  unfold jI
  simp only
  rw[if_neg (by simp;omega)]) (kp (by omega))
 exact (af this).trans (by simp[live,hlen])
theorem Kj {out:List Bool} {g:Bool} {s:Nat} (hs:s<n) (hl:out.length=n):ai (cv (g,(s:Int),out) (nth a.2.2 (s:Int))) aD (g,0,out)=some (.brk (g || (hit out (nth a.2.2 (s:Int)) && !nth out (s:Int)),9,uI a out s)):=by
 have hr:=V.rowAt (s:=s) (by omega) (by omega)
 have hls:s<out.length:=by omega
 have:=aA (f:=cv (g,(s:Int),out) (nth a.2.2 (s:Int))) (fun k=>(g || (((nth a.2.2 (s:Int)).take k).any (Kg out) && !nth out (s:Int)),(k:Int),if ((nth a.2.2 (s:Int)).take k).any (Kg out) then out.set s true else out)) 9 (fun k hk=>by
  unfold cv
  simp only
  rw[if_pos (by simp[hr];omega),V.get2 (by omega) (by omega) hk];simp only[Option.bind_some]
  rw[FK (by omega),show nth (nth a.2.2 (s:Int)) (k:Int)=mv a s k from rfl]
  simp only[aa (show k<9223372036854775807 by omega)]
  by_cases c:mv a s k≥0
  ·have hset:(out.set s true).length=n:=by simp[hl]
   have hm:=(V.mv (s:=s) (k:=k) (by omega) (by omega) hk).2
   rw[if_pos (by simpa using c)]
   by_cases q:((nth a.2.2 (s:Int)).take k).any (Kg out)=true
   ·simp only[q,if_true,Bool.true_or]
    have hself:nth (out.set s true) (s:Int)=true:=by
     have:=mu (xs:=out) (i:=(s:Int)) (x:=true) (by omega) (by omega)
     simpa using this
    rw[aj c (by rw[hset];exact hm),aj (by omega) (by rw[hset];omega)];simp only[Option.bind_some,Int.toNat_natCast,hself,if_true]
    split <;> simp
   ·simp only[q,Bool.false_eq_true,if_false,Bool.false_or,Kg,Bool.false_and,Bool.or_false]
    rw[aj c (by rw[hl];exact hm),aj (by omega) (by rw[hl];omega)];simp only[Option.bind_some,Int.toNat_natCast]
    cases hc:nth out (mv a s k) with
    | false=>simp[c]
    | true =>
     cases hd:nth out (s:Int) with
     | false=>simp[c]
     | true =>
      rw[bw hls] at hd
      simp[c,FJ hls hd]
  ·rw[if_neg (by simpa using c)]
   simp[Kg,c]) (by unfold cv;simp[hr]) (by unfold aD;omega)
 have e9:(nth a.2.2 (s:Int)).take 9=nth a.2.2 (s:Int):=List.take_of_length_le (by omega)
 rw[e9] at this
 have e0:(g || (((nth a.2.2 (s:Int)).take 0).any (Kg out) && !nth out (s:Int)))=g:=by simp
 rw[e0] at this
 exact this
theorem CG {out:List Bool} (hl:out.length=n): ∃g,ai (cw a) aD (false,0,out)=some (.brk (g,(n:Int),il a out n))∧(g=true↔cnt out<cnt (il a out n)):=by
 have hlen:=V.len
 have hnl:=V.nlen
 obtain ⟨s',e,⟨g,rfl,hg⟩⟩:=nc (f:=cw a) (fun s st=> ∃g,st=(g,(s:Int),il a out s)∧(g=true↔cnt out<cnt (il a out s))) n (by
  rintro s st hs ⟨g,rfl,hg⟩
  have hpl:(il a out s).length=n:=by rw[iZ];exact hl
  unfold cw
  simp only
  rw[if_pos (by simp;omega),V.get (by omega) (by omega)];simp only[Option.bind_some]
  rw[af (Kj V hn hs hpl),aa (by omega)]
  refine ⟨_,rfl,_,rfl,?_⟩
  rw[Bool.or_eq_true,Bool.and_eq_true,Bool.not_eq_true',hg,il]
  have hc:=tR (a:=a) (out:=out) s (by omega)
  rcases uJ (a:=a) (out:=il a out s) (s:=s) (by omega) with ⟨e,k⟩ | ⟨e,k⟩
  ·rw[e];exact ⟨fun h=>h.elim id fun h=>absurd h k,.inl⟩
  ·rw[e]
   exact ⟨fun _=>by rcases hc with ⟨-,h⟩ | h <;> omega,fun _=>.inr k⟩) (by
  rintro s ⟨g,rfl,hg⟩
  unfold cw
  simp only
  rw[if_neg (by simp;omega)]) ⟨false,rfl,by simp[il]⟩ (kp (by omega))
 exact ⟨g,e,hg⟩
theorem Sa:dq a=some (live a):=by
 have hlen:=V.len
 unfold dq
 rw[aw (by simp;omega)];simp only[Option.bind_some,List.nil_append]
 obtain ⟨o,e,i,rfl,hi⟩:=cJ (f:=fA a) (fun i s=> ∃b,s=(b,it a i)∧(b=true→i≤cnt (it a i))∧(b=false→it a (i+1)=it a i)) (fun o=> ∃i,o= .brk (false,it a i)∧it a (i+1)=it a i) (n+1) (s:=(true,a.2.1)) (by
  rintro i s hi ⟨b,rfl,h1,h2⟩
  unfold fA
  simp only
  cases b with
  | false=>exact .inr ⟨_,by rw[if_neg (by simp)],(fun s' e=>by cases e),i,rfl,h2 rfl⟩
  | true =>
   have hc:=Ov a i
   have h1:=h1 rfl
   obtain ⟨g,e,hg⟩:=CG V hn (out:=it a i) (by rw[nj];exact hlen)
   have ee:il a (it a i) n=it a (i+1):=by rw[it,hlen]
   rw[ee] at e hg
   refine .inl ⟨by omega,(g,it a (i+1)),by rw[if_pos rfl,af e],g,rfl,fun h=>?_,fun h=>?_⟩
   ·have:=hg.1 h;omega
   ·have hs:it a (i+1)=it a i:=by
     rcases Em a i with h' | h'
     ·exact h'
     ·rw[←hg,h] at h';cases h'
    rw[it,hs];exact hs) ⟨true,rfl,fun _=>Nat.zero_le _,fun h=>by cases h⟩ (kp (by omega))
 rw[af e]
 have:=Kh hi (Qw a)
 simp[live,this]
end
end
end D
namespace D
open Go.RowKit
def nothing:AutT:=(0,[false],[[-1,-1,-1,-1,-1,-1,-1,-1,-1]])
theorem Kk:mC=some nothing:=by kernel_rfl
theorem Kl:qU=some nothing:=by kernel_rfl
theorem Km {n:Nat} (h:n≤1000000):iOk (n:Int)=true:=by
 have h1:IntKind.i64.min= -9223372036854775808:=by decide
 have h2:IntKind.i64.max=9223372036854775807:=by decide
 simp only[iOk,Lit.wf,h1,h2,Bool.and_eq_true,decide_eq_true_eq]
 omega
theorem take_one {α:Type} [Inhabited α] {xs:List α} {k:Nat} (h:k<xs.length):xs.take (k+1)=xs.take k++ [nth xs (k:Int)]:=by
 rw[List.take_succ_eq_append_getElem h,bw h]
theorem im {α:Type} [Inhabited α] {xs ys:List α} (h:xs <+:ys) {i:Int} (h0:0≤i) (h1:i<xs.length):nth ys i=nth xs i:=by
 obtain ⟨t,rfl⟩:=h
 exact lQ h0 h1
structure NumOk {κ:Type} [DecidableEq κ] (nx:κ→List (Option κ)) (first:κ) (G:κ→Prop) (B:Nat):Prop where
 g0:G first
 gn: ∀x,G x→ ∀y,some y∈nx x→G y
 len: ∀x,G x→(nx x).length=9
 bound: ∀l:List κ,l.Nodup→(∀x∈l,G x)→l.length≤B
section
variable {κ:Type} [DecidableEq κ] [Inhabited κ] {nx:κ→List (Option κ)} {first:κ} {G:κ→Prop} {B:Nat}
theorem NumOk.le (H:NumOk nx first G B) (i:Nat):(bfS nx first i).length≤B:=H.bound _ (ng i) (jX H.g0 H.gn i)
theorem NumOk.at (H:NumOk nx first G B) {i:Nat} (h:i<(bfS nx first i).length):G (nth (bfS nx first i) (i:Int)):=jX H.g0 H.gn i _ (bg (by omega) (by omega))
theorem ja {i:Nat} (h:i<(bfS nx first i).length):bfS nx first (i+1)=nbS (bfS nx first i) (nx (nth (bfS nx first i) (i:Int))):=by rw[AB h,bw h]
theorem sK {i:Nat} (h:i<(bfS nx first i).length):bfR nx first (i+1)=bfR nx first i++ [nbR (bfS nx first i) (nx (nth (bfS nx first i) (i:Int)))]:=by rw[sF h,bw h]
theorem vo {β:Type} {acc:κ→β} {i:Nat} (h:i<(bfS nx first i).length):((bfS nx first (i+1)).take (i+1)).map acc=((bfS nx first i).take i).map acc++ [acc (nth (bfS nx first i) (i:Int))]:=by
 have hp:=ba (nx:=nx) (first:=first) i
 have hl:=hp.length_le
 have e:(bfS nx first (i+1)).take i=(bfS nx first i).take i:=by
  obtain ⟨t,ht⟩:=hp
  rw[←ht,List.take_append_of_le_length (by omega)]
 rw[take_one (by omega),List.map_append,e,im hp (by omega) (by omega)];rfl
def MapOf (M:List (κ×Int)) (l:List κ):Prop:=M.length=l.length∧ ∀x,M.lookup x=if x∈l then some (l.idxOf x:Int) else none
theorem MapOf.one (x:κ):MapOf [(x,0)] [x]:=by
 refine ⟨rfl,fun y=>?_⟩
 rw[List.lookup_cons]
 by_cases e:y=x
 ·subst e;simp
 ·simp only[show (y==x)=false from by simp[e]];simp[e]
theorem MapOf.put {M:List (κ×Int)} {l:List κ} (h:MapOf M l) {x:κ} (hx:x∉l):MapOf ((x,(l.length:Int))::M) (l++ [x]):=by
 refine ⟨by simp[h.1],fun y=>?_⟩
 rw[List.lookup_cons]
 by_cases e:y=x
 ·subst e
  simp[List.idxOf_append,hx]
 ·simp only[show (y==x)=false from by simp[e],h.2 y,List.mem_append,List.mem_singleton,e,or_false]
  by_cases k:y∈l
  ·simp[k,List.idxOf_append]
  ·simp[k]
end
section
variable {nx:Int→List (Option Int)} {first:Int} {G:Int→Prop} {B:Nat}
theorem CH {p3:Int→Int→Option (Int×Bool)} {l:List Int} {M:List (Int×Int)} {os:List (Option Int)} {acs:List Bool} {rws:List (List Int)} {i:Nat}
  (hi:i<l.length) (hos:os.length=9) (hM:MapOf M l) (hok: ∀y,some y∈os→iOk y=true) (hB: ∀k,(nbS l (os.take k)).length≤1000000)
  (hp: ∀(k:Nat) (hk:k<9),∃j,p3 (nth l (i:Int)) (k:Int)=some (match nth os (k:Int) with | some y=>(y,true) | none=>(j,false))) :
  ∃M',ai (cQ p3 (l,M,(i:Int),0,acs,rws)) aD (l,M,[],0)=some (.brk (nbS l os,M',nbR l os,9))∧MapOf M' (nbS l os):=by
 obtain ⟨s',e,M',rfl,hM'⟩:=nc (f:=cQ p3 (l,M,(i:Int),0,acs,rws)) (fun k s=> ∃M',s=(nbS l (os.take k),M',nbR l (os.take k),(k:Int))∧MapOf M' (nbS l (os.take k))) 9 (by
  rintro k s hk ⟨M1,rfl,hM1⟩
  have hpre:=jx l (os.take k)
  have hlen:=hpre.length_le
  have hBk:=hB k
  obtain ⟨j,hj⟩:=hp k hk
  have hrl:(nbR l (os.take k)).length≤9:=by rw[dj,List.length_take];omega
  unfold cQ
  simp only
  rw[if_pos (by simp;omega),aj (by omega) (by omega)];simp only[Option.bind_some]
  rw[im hpre (by omega) (by omega),hj,take_one (by omega),sE,qa]
  simp only[Option.bind_some,aa (show k<9223372036854775807 by omega)]
  cases ho:nth os (k:Int) with
  | none =>
   simp only[Bool.false_eq_true,if_false]
   rw[aw (by simp;omega)]
   exact ⟨_,rfl,M1,rfl,hM1⟩
  | some y =>
   have hy:iOk y=true:=hok y (ho ▸ bg (by omega) (by omega))
   simp only[if_true]
   rw[show chk (iOk y=true)=some () from by unfold chk;rw[if_pos hy]];simp only[Option.bind_some]
   rw[show lkM M1 y=_ from hM1.2 y]
   by_cases c:y∈nbS l (os.take k)
   ·simp only[c,if_true,Option.isSome_some,Option.getD_some,Option.bind_some]
    rw[aw (by simp;omega)]
    exact ⟨_,rfl,M1,by rw[kE c];rfl,by rw[kE c];exact hM1⟩
   ·have hput:HU M1 iOk iOk y ((nbS l (os.take k)).length:Int)=some ((y,((nbS l (os.take k)).length:Int))::M1):=by
     unfold HU
     rw[if_pos ⟨by have:=hM1.1;omega,hy,Km hBk⟩]
    simp only[c,if_false,Option.isSome_none,Bool.false_eq_true,hput,Option.bind_some]
    rw[aw (by simp;omega)];simp only[Option.bind_some]
    rw[aw (by simp;omega)]
    refine ⟨_,rfl,(y,((nbS l (os.take k)).length:Int))::M1,?_,?_⟩
    ·rw[jy c];simp only[nbI,nf c]
    ·rw[jy c];exact hM1.put c) (by
  rintro s ⟨M1,rfl,hM1⟩
  unfold cQ
  simp) (s:=(l,M,[],0)) ⟨M,rfl,hM⟩ (by unfold aD;omega)
 rw[List.take_of_length_le (by omega)] at e hM'
 exact ⟨M',e,hM'⟩
theorem Sb {most:Int} {p2:Int→Option Bool} {p3:Int→Int→Option (Int×Bool)} {acc:Int→Bool} (H:NumOk nx first G B) (hB:B≤1000000) (hmost:(B:Int)≤most) (hok: ∀x,G x→iOk x=true)
  (h2: ∀x,G x→p2 x=some (acc x)) (h3: ∀x (k:Nat),G x→k<9→ ∃j,p3 x (k:Int)=some (match nth (nx x) (k:Int) with | some y=>(y,true) | none=>(j,false))) :
  ∃N,bfE nx first N∧df first most p2 p3=some ((0,(bfS nx first N).map acc,bfR nx first N),true):=by
 obtain ⟨N,hNB,hN⟩:=Oq (nx:=nx) (first:=first) (H.le)
 refine ⟨N,hN,?_⟩
 unfold df
 rw[show HU ([] :List (Int×Int)) iOk iOk first 0=some [(first,0)] from by unfold HU;rw[if_pos ⟨by simp,hok _ H.g0,by decide⟩]];simp only[Option.bind_some]
 obtain ⟨s',e,M',rfl,hM'⟩:=nc (f:=bq most p2 p3) (fun i s=> ∃M,s=(bfS nx first i,M,(i:Int),0,((bfS nx first i).take i).map acc,bfR nx first i)∧MapOf M (bfS nx first i)) N (by
  rintro i s hi ⟨M,rfl,hM⟩
  have hlt:=hN.2 i hi
  have hG:=H.at hlt
  have hle:=H.le i
  have hle':=H.le (i+1)
  obtain ⟨M',e,hM'⟩:=CH (p3:=p3) (l:=bfS nx first i) (M:=M) (os:=nx (nth (bfS nx first i) (i:Int))) (acs:=((bfS nx first i).take i).map acc) (rws:=bfR nx first i) hlt (H.len _ hG) hM (fun y hy=>hok y (H.gn _ hG y hy))
   (fun k=>by
    have:(nbS (bfS nx first i) ((nx (nth (bfS nx first i) (i:Int))).take k)).length≤B:=H.bound _ (pv (ng i)) fun x hx=>by
     rcases tM.1 hx with hx | hx
     ·exact jX H.g0 H.gn i x hx
     ·exact H.gn _ hG x (List.mem_of_mem_take hx)
    omega) (fun k hk=>h3 _ k hG hk)
  unfold bq
  simp only
  rw[if_pos (by simp;omega),af e,←ja hlt]
  rw[←ja hlt] at hM'
  have hl2:=(ba (nx:=nx) (first:=first) i).length_le
  simp only
  rw[if_neg (by simp;omega),aj (by omega) (by omega)];simp only[Option.bind_some]
  rw[im (ba i) (by omega) (by omega),h2 _ hG];simp only[Option.bind_some]
  have hr:(bfR nx first i).length=i:=ij fun j hj=>hN.2 j (by omega)
  rw[aw (by simp;omega)];simp only[Option.bind_some]
  rw[aw (by simp;omega)];simp only[Option.bind_some,aa (show i<9223372036854775807 by omega)]
  exact ⟨_,rfl,M',by rw[vo hlt,sK hlt],hM'⟩) (by
  rintro s ⟨M,rfl,hM⟩
  unfold bq
  simp only
  rw[if_neg (by have:=hN.1;simp;omega)]) (s:=([first],[(first,0)],0,0,[],[])) ⟨_,rfl,MapOf.one first⟩ (kp (by omega))
 rw[af e]
 simp only
 rw[List.take_of_length_le (by have:=hN.1;omega)]
end
theorem Oy {l:List Int} {x:Int} (h:l.length≤9223372036854775807):lu l x=some (if x∈l then (l.idxOf x:Int) else -1):=by
 unfold lu
 obtain ⟨o,e,hq⟩:=cJ (f:=mB l x) (fun i s=>s=(i:Int)∧x∉l.take i) (fun o=>(x∈l∧o= .ret (l.idxOf x:Int))∨(x∉l∧ ∃s,o= .brk s)) l.length (s:=0) (by
  rintro i s hi ⟨rfl,hx⟩
  unfold mB
  by_cases hl:i<l.length
  ·rw[if_pos (by simp;omega),aj (by omega) (by omega)];simp only[Option.bind_some]
   by_cases c:nth l (i:Int)=x
   ·refine .inr ⟨_,by rw[if_pos (by simpa using c)],(fun s' e=>by cases e),.inl ?_⟩
    have e:l=l.take i++(x::l.drop (i+1)):=by
     rw[←c,bw hl,←List.drop_eq_getElem_cons hl,List.take_append_drop]
    refine ⟨by rw[e];simp,?_⟩
    congr 1
    conv=>rhs;rw[e,List.idxOf_append,if_neg hx,List.idxOf_cons_self]
    simp[List.length_take];first | done | omega
   ·refine .inl ⟨hl,_,by rw[if_neg (by simpa using c)],by rw[aa (by omega)],?_⟩
    rw[take_one hl,List.mem_append,List.mem_singleton]
    rintro (h | h)
    ·exact hx h
    ·exact c h.symm
  ·refine .inr ⟨_,by rw[if_neg (by simp;omega)],(fun s' e=>by cases e),.inr ⟨?_,_,rfl⟩⟩
   rwa [List.take_of_length_le (by omega)] at hx) ⟨rfl,by simp⟩ (kp h)
 rcases hq with ⟨hx,rfl⟩ | ⟨hx,s,rfl⟩
 ·rw[bE e,if_pos hx]
 ·rw[af e,if_neg hx]
section
variable {a:AutT} {n:Nat} {c:List Int} {lv:List Bool} {nx:Int→List (Option Int)} {G:Int→Prop} {B:Nat} {acc:Int→Bool}
def good (n:Nat) (lv:List Bool) (r:Int):Prop:=0≤r∧r<n∧nth lv r=true
def tS (a:AutT) (c:List Int) (lv:List Bool) (r:Int):List (Option Int):=(List.range 9).map fun k=>if mv a r k≥0∧nth lv (mv a r k)=true then some (nth c (mv a r k)) else none
theorem FL {r:Int} {k:Nat} (hk:k<9):nth (tS a c lv r) (k:Int)=if mv a r k≥0∧nth lv (mv a r k)=true then some (nth c (mv a r k)) else none:=by
 have:k<(tS a c lv r).length:=by simp[tS];omega
 rw[bw this];simp[tS]
def RepsOf (n:Nat) (lv:List Bool) (c:List Int) (rs l:List Int):Prop:=rs.length=l.length∧ ∀j:Nat,j<l.length→good n lv (nth rs j)∧nth c (nth rs j)=nth l (j:Int)
theorem RepsOf.snoc {rs l:List Int} (h:RepsOf n lv c rs l) {t:Int} (ht:good n lv t):RepsOf n lv c (rs++ [t]) (l++ [nth c t]):=by
 refine ⟨by simp[h.1],fun j hj=>?_⟩
 by_cases e:j<l.length
 ·rw[lQ (by omega) (by have:=h.1;omega),lQ (by omega) (by omega)];exact h.2 j e
 ·have e:j=l.length:=by simp at hj;omega
  subst e
  have h1:nth (rs++ [t]) (l.length:Int)=t:=by rw[bw (by simp[h.1])];simp[←h.1]
  have h2:nth (l++ [nth c t]) (l.length:Int)=nth c t:=by rw[bw (by simp)];simp
  rw[h1,h2];exact ⟨ht,rfl⟩
theorem Kn (V:VA a n) (hn:n≤1000000) (hc:c.length=n) (hlv:lv.length=n) {l rs:List Int} {acs:List Bool} {rws:List (List Int)} {i:Nat} (hi:i<l.length) (hR:RepsOf n lv c rs l) {os:List (Option Int)} (hos:os.length=9)
  (ho: ∀r,good n lv r→nth c r=nth l (i:Int)→tS a c lv r=os) (hB: ∀k,(nbS l (os.take k)).length≤1000000) :
  ∃rs',ai (eM a c lv (l,rs,(i:Int),0,acs,rws)) aD (l,rs,[],0)=some (.brk (nbS l os,rs',nbR l os,9))∧RepsOf n lv c rs' (nbS l os):=by
 obtain ⟨s',e,rs',rfl,hR'⟩:=nc (f:=eM a c lv (l,rs,(i:Int),0,acs,rws)) (fun k s=> ∃rs',s=(nbS l (os.take k),rs',nbR l (os.take k),(k:Int))∧RepsOf n lv c rs' (nbS l (os.take k))) 9 (by
  rintro k s hk ⟨r1,rfl,hR1⟩
  have hpre:=jx l (os.take k)
  have hlen:=hpre.length_le
  have hBk:=hB k
  have hrl:(nbR l (os.take k)).length≤9:=by rw[dj,List.length_take];omega
  have hr1:=hR1.1
  obtain ⟨⟨g0,g1,g2⟩,gc⟩:=hR1.2 i (by omega)
  rw[im hpre (by omega) (by omega)] at gc
  have hsu:=ho _ ⟨g0,g1,g2⟩ gc
  have hok:nth os (k:Int)=if mv a (nth r1 (i:Int)) k≥0∧nth lv (mv a (nth r1 (i:Int)) k)=true then some (nth c (mv a (nth r1 (i:Int)) k)) else none:=by
   rw[←hsu];exact FL hk
  have hmv:=V.mv (s:=nth r1 (i:Int)) (k:=k) g0 g1 hk
  unfold eM
  simp only
  rw[if_pos (by simp;omega),aj (xs:=r1) (by omega) (by omega)];simp only[Option.bind_some]
  rw[V.get g0 g1];simp only[Option.bind_some]
  rw[V.get2 g0 g1 hk,take_one (by omega),sE,qa]
  simp only[Option.bind_some,aa (show k<9223372036854775807 by omega)]
  by_cases c1:mv a (nth r1 (i:Int)) k≥0
  ·rw[if_pos (by simpa using c1),aj (xs:=lv) c1 (by omega)];simp only[Option.bind_some]
   by_cases c2:nth lv (mv a (nth r1 (i:Int)) k)=true
   ·rw[if_pos ⟨c1,c2⟩] at hok
    rw[if_pos c2,aj (xs:=c) c1 (by omega),hok];simp only[Option.bind_some]
    rw[Oy (by omega)];simp only[Option.bind_some]
    by_cases c3:nth c (mv a (nth r1 (i:Int)) k)∈nbS l (os.take k)
    ·rw[if_pos c3,if_neg (by simp)];simp only[Option.bind_some]
     rw[aw (by simp;omega)]
     exact ⟨_,rfl,r1,by rw[kE c3];rfl,by rw[kE c3];exact hR1⟩
    ·rw[if_neg c3,if_pos (by decide)]
     rw[aw (by simp;omega)];simp only[Option.bind_some]
     rw[aw (by simp;omega)];simp only[Option.bind_some]
     rw[aw (by simp;omega)];simp only[Option.bind_some]
     refine ⟨_,rfl,r1++ [mv a (nth r1 (i:Int)) k],?_,?_⟩
     ·rw[jy c3];simp only[nbI,nf c3]
     ·rw[jy c3];exact hR1.snoc ⟨c1,hmv.2,c2⟩
   ·rw[if_neg (fun h=>c2 h.2)] at hok
    rw[if_neg c2,hok];simp only[Option.bind_some]
    rw[aw (by simp;omega)]
    exact ⟨_,rfl,r1,rfl,hR1⟩
  ·rw[if_neg (fun h=>c1 h.1)] at hok
   rw[if_neg (by simpa using c1),hok];simp only[Option.bind_some]
   rw[aw (by simp;omega)]
   exact ⟨_,rfl,r1,rfl,hR1⟩) (by
  rintro s ⟨r1,rfl,hR1⟩
  unfold eM
  simp) (s:=(l,rs,[],0)) ⟨rs,rfl,hR⟩ (by unfold aD;omega)
 rw[List.take_of_length_le (by omega)] at e hR'
 exact ⟨rs',e,hR'⟩
theorem Sc (V:VA a n) (hn:n≤1000000) (hc:c.length=n) (hlv:lv.length=n) (hs:nth lv a.1=true) (H:NumOk nx (nth c a.1) G B) (hB:B≤1000000)
  (hnx: ∀r,good n lv r→nx (nth c r)=tS a c lv r) (hacc: ∀r,good n lv r→acc (nth c r)=nth a.2.1 r) :
  ∃N,bfE nx (nth c a.1) N∧fM a c lv=some (0,(bfS nx (nth c a.1) N).map acc,bfR nx (nth c a.1) N):=by
 obtain ⟨N,hNB,hN⟩:=Oq (nx:=nx) (first:=nth c a.1) (H.le)
 refine ⟨N,hN,?_⟩
 have hst:=V.start
 have hlen:=V.len
 unfold fM
 rw[aj hst.1 (by omega)];simp only[Option.bind_some]
 rw[if_pos hs,aj hst.1 (by omega)];simp only[Option.bind_some]
 obtain ⟨s',e,rs,rfl,hR⟩:=nc (f:=gy a c lv) (fun i s=> ∃rs,s=(bfS nx (nth c a.1) i,rs,(i:Int),0,((bfS nx (nth c a.1) i).take i).map acc,bfR nx (nth c a.1) i)∧RepsOf n lv c rs (bfS nx (nth c a.1) i)) N (by
  rintro i s hi ⟨rs,rfl,hR⟩
  have hlt:=hN.2 i hi
  have hG:=H.at hlt
  have hle:=H.le i
  have hle':=H.le (i+1)
  obtain ⟨rs',e,hR'⟩:=Kn (acs:=((bfS nx (nth c a.1) i).take i).map acc) (rws:=bfR nx (nth c a.1) i) V hn hc hlv hlt hR (os:=nx (nth (bfS nx (nth c a.1) i) (i:Int))) (H.len _ hG) (fun r hr e=>by rw[←hnx r hr,e]) (fun k=>by
    have:(nbS (bfS nx (nth c a.1) i) ((nx (nth (bfS nx (nth c a.1) i) (i:Int))).take k)).length≤B:=H.bound _ (pv (ng i)) fun x hx=>by
     rcases tM.1 hx with hx | hx
     ·exact jX H.g0 H.gn i x hx
     ·exact H.gn _ hG x (List.mem_of_mem_take hx)
    omega)
  unfold gy
  simp only
  rw[if_pos (by simp;omega),af e]
  rw[←ja hlt] at hR'
  have hl2:=(ba (nx:=nx) (first:=nth c a.1) i).length_le
  have hr1:=hR'.1
  obtain ⟨⟨g0,g1,g2⟩,gc⟩:=hR'.2 i (by omega)
  rw[im (ba i) (by omega) (by omega)] at gc
  rw[aj (xs:=rs') (by omega) (by omega)];simp only[Option.bind_some]
  rw[V.acc g0 g1,←hacc _ ⟨g0,g1,g2⟩,gc];simp only[Option.bind_some]
  have hr:(bfR nx (nth c a.1) i).length=i:=ij fun j hj=>hN.2 j (by omega)
  rw[aw (by simp;omega)];simp only[Option.bind_some]
  rw[aw (by simp;omega)];simp only[Option.bind_some,aa (show i<9223372036854775807 by omega)]
  exact ⟨_,rfl,rs',by rw[←ja hlt,vo hlt,sK hlt],hR'⟩) (by
  rintro s ⟨rs,rfl,hR⟩
  unfold gy
  simp only
  rw[if_neg (by have:=hN.1;simp;omega)]) (s:=([nth c a.1],[a.1],0,0,[],[])) ⟨[a.1],rfl,rfl,fun j hj=>by
   obtain rfl:j=0:=by simpa [bfS] using hj
   exact ⟨⟨hst.1,hst.2,hs⟩,rfl⟩⟩ (kp (by omega))
 rw[af e]
 simp only
 rw[List.take_of_length_le (by have:=hN.1;omega)]
theorem En (V:VA a n) (hlv:lv.length=n) (hs:nth lv a.1=false):fM a c lv=some nothing:=by
 have hst:=V.start
 unfold fM
 rw[aj hst.1 (by omega)];simp only[Option.bind_some]
 rw[hs,Kk];rfl
end
end D
namespace D
open Go.RowKit
abbrev C1:=(List Int)×Int×Int×(List Int)×Bool
abbrev Nl (x:Int) (j:Nat):Bool:=(pC (lU x (j:Int)) 1)==1
def Nm (F:List Int) (set m0:Int):Nat→Int
 | 0=>m0
 | i+1=>if Nl set (i+1) then orI (Nm F set m0 i) (nth F (i:Int)) else Nm F set m0 i
def pick (L:List Int) (m letter:Int):Nat→Int
 | 0=>0
 | i+1=>if nth L (i:Int)=letter∧Nl m i=true then orI (pick L m letter i) (sV 1 ((i+1:Nat):Int)) else pick L m letter i
def aft (p:C1) (set letter:Int):Int:=pick p.1 (Nm p.2.2.2.1 set (if (pC set 1)==1 then p.2.1 else 0) p.2.2.2.1.length) letter p.1.length
def sL (p:C1) (set:Int):Bool:=if (pC set 1)==1 then (if p.2.2.2.2 then true else (pC (lU set 1) p.2.2.1) !=0) else (pC (lU set 1) p.2.2.1) !=0
theorem py (i:Nat):chk (0≤(i:Int))=some ():=by unfold chk;rw[if_pos (by omega)]
theorem Qx {p:C1} {set letter:Int} (hl:p.2.2.2.1.length=p.1.length) (hb:p.1.length≤1000000):l8 p set letter=some (aft p set letter):=by
 have h0: ∀m0,ai (fj p set) aD (m0,0)=some (.brk (Nm p.2.2.2.1 set m0 p.1.length,(p.1.length:Int))):=fun m0 =>
  aA (f:=fj p set) (fun i=>(Nm p.2.2.2.1 set m0 i,(i:Int))) p.1.length (fun i hi=>by
   unfold fj
   simp only
   rw[if_pos (by simp;omega),aa (by omega),py];simp only[Option.bind_some]
   rw[Nm]
   by_cases c:Nl set (i+1)=true
   ·rw[if_pos c,if_pos c,aj (by omega) (by omega)];rfl
   ·rw[if_neg c,if_neg c];rfl) (by unfold fj;simp) (kp (by omega))
 have h1: ∀s7:Int×Int,ai (fl p letter s7) aD (0,0)=some (.brk (pick p.1 s7.1 letter p.1.length,(p.1.length:Int))):=fun s7 =>
  aA (f:=fl p letter s7) (fun i=>(pick p.1 s7.1 letter i,(i:Int))) p.1.length (fun i hi=>by
   unfold fl
   simp only
   rw[if_pos (by simp;omega),aa (by omega),py,py];simp only[Option.bind_some]
   rw[pick]
   by_cases c:Nl s7.1 i=true
   ·rw[if_pos c,aj (by omega) (by omega)];simp only[Option.bind_some]
    by_cases d:nth p.1 (i:Int)=letter
    ·rw[if_pos (by simpa using d),if_pos ⟨d,c⟩];rfl
    ·rw[if_neg (by simpa using d),if_neg (fun h=>d h.1)];rfl
   ·rw[if_neg c,if_neg (fun h=>c h.2)];rfl) (by unfold fl;simp) (kp (by omega))
 unfold l8 aft
 rw[hl]
 by_cases c:((pC set 1)==1)=true
 ·rw[if_pos c,if_pos c];simp only[Option.bind_some]
  rw[af (h0 _),af (h1 _)]
 ·rw[if_neg c,if_neg c];simp only[Option.bind_some]
  rw[af (h0 _),af (h1 _)]
theorem Qy {p:C1} {set letter:Int} (hl:p.2.2.2.1.length=p.1.length) (hb:p.1.length≤1000000):eB p set letter=some (aft p set letter):=by
 have h0: ∀m0,ai (bY p set) aD (m0,0)=some (.brk (Nm p.2.2.2.1 set m0 p.2.2.2.1.length,(p.2.2.2.1.length:Int))):=fun m0 =>
  aA (f:=bY p set) (fun i=>(Nm p.2.2.2.1 set m0 i,(i:Int))) p.2.2.2.1.length (fun i hi=>by
   unfold bY
   simp only
   rw[if_pos (by simp;omega),aj (by omega) (by omega)];simp only[Option.bind_some]
   rw[aa (by omega),py];simp only[Option.bind_some]
   rw[Nm]
   by_cases c:Nl set (i+1)=true
   ·rw[if_pos c,if_pos c];rfl
   ·rw[if_neg c,if_neg c];rfl) (by unfold bY;simp) (kp (by omega))
 have h1: ∀s7:Int×Int,ai (bZ p letter s7) aD (0,0)=some (.brk (pick p.1 s7.1 letter p.1.length,(p.1.length:Int))):=fun s7 =>
  aA (f:=bZ p letter s7) (fun i=>(pick p.1 s7.1 letter i,(i:Int))) p.1.length (fun i hi=>by
   unfold bZ
   simp only
   rw[if_pos (by simp;omega),aj (by omega) (by omega)];simp only[Option.bind_some]
   rw[aa (by omega),py,py];simp only[Option.bind_some]
   rw[pick]
   by_cases d:nth p.1 (i:Int)=letter
   ·rw[if_pos (by simpa using d)]
    by_cases c:Nl s7.1 i=true
    ·rw[if_pos c,if_pos ⟨d,c⟩];rfl
    ·rw[if_neg c,if_neg (fun h=>c h.2)];rfl
   ·rw[if_neg (by simpa using d),if_neg (fun h=>d h.1)];rfl) (by unfold bZ;simp) (kp (by omega))
 unfold eB aft
 by_cases c:((pC set 1)==1)=true
 ·rw[if_pos c,if_pos c];simp only[Option.bind_some]
  rw[af (h0 _),af (h1 _)]
 ·rw[if_neg c,if_neg c];simp only[Option.bind_some]
  rw[af (h0 _),af (h1 _)]
theorem Sd (p:C1) (x:Int):jH p x=some (sL p x):=by
 unfold jH sL
 split <;> (try split) <;> rfl
theorem Se (p:C1) (x:Int):ct p x=some (sL p x):=by
 unfold ct sL
 split <;> (try split) <;> rfl
theorem Hh (x:Int): -9223372036854775808≤IntKind.i64.wrap x∧IntKind.i64.wrap x≤9223372036854775807:=by
 simp only[IntKind.wrap,IntKind.bits,IntKind.signed,Bool.true_and]
 split <;> rename_i h <;> simp at h <;> omega
theorem Qz (x:Int):iOk (IntKind.i64.wrap x)=true:=by
 have h1:IntKind.i64.min= -9223372036854775808:=by decide
 have h2:IntKind.i64.max=9223372036854775807:=by decide
 have h3:=Hh x
 simp only[iOk,Lit.wf,h1,h2,Bool.and_eq_true,decide_eq_true_eq]
 omega
theorem Sf (m n:Int):iOk (orI m n)=true:=Qz _
theorem Ko (L:List Int) (m letter:Int): ∀i,iOk (pick L m letter i)=true
 | 0=>by unfold pick;decide
 | i+1=>by
  rw[pick]
  split
  ·exact Sf _ _
  ·exact Ko L m letter i
def nxS (p:C1) (x:Int):List (Option Int):=(List.range 9).map fun k:Nat=>if aft p x (k:Int)=0 then none else some (aft p x (k:Int))
theorem Oz {p:C1} {x:Int} {k:Nat} (hk:k<9):nth (nxS p x) (k:Int)=if aft p x k=0 then none else some (aft p x k):=by
 have:k<(nxS p x).length:=by simp[nxS];omega
 rw[bw this];simp[nxS]
theorem AP (p:C1) (x:Int):(nxS p x).length=9:=by simp[nxS]
theorem Si {p:C1} {x y:Int} (h:some y∈nxS p x):iOk y=true:=by
 obtain ⟨k,hk,e⟩:=List.mem_map.1 h
 split at e
 ·cases e
 ·obtain rfl:=Option.some.inj e
  exact Ko _ _ _ _
theorem Kp {κ:Type} [DecidableEq κ] : ∀(l:List κ) (os:List (Option κ)),(nbS l os).length≤l.length+os.length
 | l,[] =>by simp[nbS]
 | l,o::os=>by
  have h:=Kp (nbL l o) os
  have h2:(nbL l o).length≤l.length+1:=by
   cases o with
   | none=>simp[nbL]
   | some x=>unfold nbL;simp only;split <;> simp
  show (nbS (nbL l o) os).length≤_
  simp only[List.length_cons];omega
section
variable {κ:Type} [DecidableEq κ] (nx:κ→List (Option κ)) (first:κ) (acc:κ→Bool) (most:Nat)
def goM:Nat→Nat→AutT×Bool
 | 0,i=>((0,[],[]),false)
 | f+1,i=>if i<(bfS nx first i).length then (if (bfS nx first (i+1)).length>most then ((0,[],[]),false) else goM f (i+1)) else ((0,((bfS nx first i).take i).map acc,bfR nx first i),true)
end
section
variable {κ:Type} [DecidableEq κ] {nx:κ→List (Option κ)} {first:κ} {acc:κ→Bool} {most:Nat}
theorem AQ {i:Nat} (h: ∀j,j<i→j<(bfS nx first j).length):i≤(bfS nx first i).length:=by
 cases i with
 | zero=>omega
 | succ i =>
  have h1:=h i (by omega)
  have h2:=(ba (nx:=nx) (first:=first) i).length_le
  omega
theorem FM {S:Type} {f:S→Option (Out (AutT×Bool) S)} (hm:most≤1000000) (h1:1≤most) (st:Nat→S→Prop)
  (hs: ∀i s,st i s→(∀j,j<i→j<(bfS nx first j).length)→(bfS nx first i).length≤most→i<(bfS nx first i).length→((bfS nx first (i+1)).length>most→f s=some (.ret ((0,[],[]),false)))∧((bfS nx first (i+1)).length≤most→ ∃s',f s=some (.nxt s')∧st (i+1) s'))
  (he: ∀i s,st i s→ ¬i<(bfS nx first i).length→f s=some (.brk s)) {s:S} (h0:st 0 s) :
  (ai f aD s=some (.ret ((0,[],[]),false))∧goM nx first acc most (most+2) 0=((0,[],[]),false)) ∨
  ∃N s',ai f aD s=some (.brk s')∧st N s'∧bfE nx first N∧N≤most∧goM nx first acc most (most+2) 0=((0,(bfS nx first N).map acc,bfR nx first N),true):=by
 obtain ⟨o,e,hq⟩:=cJ (f:=f) (fun i s=>st i s∧(∀j,j<i→j<(bfS nx first j).length)∧(bfS nx first i).length≤most∧goM nx first acc most (most+2) 0=goM nx first acc most (most+2 - i) i)
  (fun o=>(o= .ret ((0,[],[]),false)∧goM nx first acc most (most+2) 0=((0,[],[]),false))∨ ∃N s',o= .brk s'∧st N s'∧bfE nx first N∧N≤most∧goM nx first acc most (most+2) 0=((0,(bfS nx first N).map acc,bfR nx first N),true)) most (s:=s) (by
  rintro i s hi ⟨k1,k2,k3,k4⟩
  have hle:=AQ k2
  rw[show most+2 - i=(most+1 - i)+1 from by omega] at k4
  have k5:goM nx first acc most (most+1 - i+1) i=if i<(bfS nx first i).length then (if (bfS nx first (i+1)).length>most then ((0,[],[]),false) else goM nx first acc most (most+1 - i) (i+1)) else ((0,((bfS nx first i).take i).map acc,bfR nx first i),true):=rfl
  rw[k5] at k4
  by_cases c:i<(bfS nx first i).length
  ·rw[if_pos c] at k4
   obtain ⟨q1,q2⟩:=hs i s k1 k2 k3 c
   by_cases d:(bfS nx first (i+1)).length>most
   ·rw[if_pos d] at k4
    exact .inr ⟨_,q1 d,(fun s' e=>by cases e),.inl ⟨rfl,k4⟩⟩
   ·rw[if_neg d] at k4
    obtain ⟨s',e,hs'⟩:=q2 (by omega)
    exact .inl ⟨by omega,s',e,hs',fun j hj=>(by
     by_cases ej:j=i
     ·subst ej;exact c
     ·exact k2 j (by omega)),by omega,by rw[k4];congr 1;omega⟩
  ·rw[if_neg c] at k4
   refine .inr ⟨_,he i s k1 c,(fun s' e=>by cases e),.inr ⟨i,s,rfl,k1,⟨by omega,k2⟩,hi,?_⟩⟩
   rw[k4,List.take_of_length_le (by omega)]) ⟨h0,fun j hj=>by omega,by simp[bfS];omega,rfl⟩ (kp (by omega))
 rcases hq with ⟨rfl,h⟩ | ⟨N,s',rfl,h⟩
 ·exact .inl ⟨e,h⟩
 ·exact .inr ⟨N,s',e,h⟩
end
section
variable {p:C1} {most:Nat} (hl:p.2.2.2.1.length=p.1.length) (hb:p.1.length≤1000000) (hm:most≤900000) (h1:1≤most)
include hl hb hm h1
theorem TL:fy p most=some (goM (nxS p) 1 (sL p) most (most+2) 0):=by
 have hp3: ∀(l:List Int) (i k:Nat),k<9→ ∃j,(fun a0 a1=>b8 a0 a1 (p.1,p.2.1,p.2.2.1,p.2.2.2.1,p.2.2.2.2)) (nth l (i:Int)) (k:Int)=some (match nth (nxS p (nth l (i:Int))) (k:Int) with | some y=>(y,true) | none=>(j,false)):=by
  intro l i k hk
  refine ⟨0,?_⟩
  show b8 _ _ p=_
  unfold b8
  simp only[fb]
  rw[Qy hl hb,Oz hk];simp only[Option.bind_some]
  by_cases c:aft p (nth l (i:Int)) k=0
  ·rw[if_pos c];simp[c]
  ·rw[if_neg c];simp[c]
 unfold fy df
 rw[show HU ([] :List (Int×Int)) iOk iOk 1 0=some [(1,0)] from by unfold HU;rw[if_pos ⟨by simp,by decide,by decide⟩]];simp only[Option.bind_some]
 rcases FM (nx:=nxS p) (first:=1) (acc:=sL p) (most:=most) (f:=bq most (fun a0=>ct (p.1,p.2.1,p.2.2.1,p.2.2.2.1,p.2.2.2.2) a0) (fun a0 a1=>b8 a0 a1 (p.1,p.2.1,p.2.2.1,p.2.2.2.1,p.2.2.2.2)))
  (by omega) h1 (fun i s=> ∃M,s=(bfS (nxS p) 1 i,M,(i:Int),0,((bfS (nxS p) 1 i).take i).map (sL p),bfR (nxS p) 1 i)∧MapOf M (bfS (nxS p) 1 i)) (by
   rintro i s ⟨M,rfl,hM⟩ hj hle hlt
   have hil:=AQ hj
   obtain ⟨M',e,hM'⟩:=CH (p3:=fun a0 a1=>b8 a0 a1 (p.1,p.2.1,p.2.2.1,p.2.2.2.1,p.2.2.2.2)) (l:=bfS (nxS p) 1 i) (M:=M) (os:=nxS p (nth (bfS (nxS p) 1 i) (i:Int))) (acs:=((bfS (nxS p) 1 i).take i).map (sL p)) (rws:=bfR (nxS p) 1 i) hlt (AP _ _) hM (fun y hy=>Si hy)
    (fun k=>by
     have:=Kp (bfS (nxS p) 1 i) ((nxS p (nth (bfS (nxS p) 1 i) (i:Int))).take k)
     have h9:=AP p (nth (bfS (nxS p) 1 i) (i:Int))
     rw[List.length_take] at this
     omega) (fun k hk=>hp3 _ i k hk)
   rw[←ja hlt] at hM'
   have hl2:=(ba (nx:=nxS p) (first:=1) i).length_le
   constructor
   ·intro hgt
    unfold bq
    simp only
    rw[if_pos (by simp;omega),af e,←ja hlt]
    simp only
    rw[if_pos (by simp;omega)]
   ·intro hle2
    unfold bq
    simp only
    rw[if_pos (by simp;omega),af e,←ja hlt]
    simp only
    rw[if_neg (by simp;omega),aj (by omega) (by omega)];simp only[Option.bind_some]
    rw[im (ba i) (by omega) (by omega)]
    simp only[fb]
    rw[Se];simp only[Option.bind_some]
    have hr:(bfR (nxS p) 1 i).length=i:=ij hj
    rw[aw (by simp;omega)];simp only[Option.bind_some]
    rw[aw (by simp;omega)];simp only[Option.bind_some,aa (show i<9223372036854775807 by omega)]
    exact ⟨_,rfl,M',by rw[vo hlt,sK hlt],hM'⟩) (by
   rintro i s ⟨M,rfl,hM⟩ hn
   unfold bq
   simp only
   rw[if_neg (by simp;omega)]) (s:=([1],[(1,0)],0,0,[],[])) ⟨_,rfl,MapOf.one 1⟩ with ⟨e,hg⟩ | ⟨N,s',e,⟨M,rfl,hM⟩,hN,hNm,hg⟩
 ·rw[bE e,hg];rfl
 ·rw[af e,hg];simp only[Option.bind_some]
  rw[List.take_of_length_le (by have:=hN.1;omega)]
theorem Nn {l:List Int} {acs:List Bool} {rws:List (List Int)} {i:Nat} (hi:i<l.length) (hle:l.length≤most) :
  ai (dP p (l,(i:Int),0,acs,rws)) aD (l,[],0)=some (.brk (nbS l (nxS p (nth l (i:Int))),nbR l (nxS p (nth l (i:Int))),9)):=by
 have h9:=AP p (nth l (i:Int))
 have:=aA (f:=dP p (l,(i:Int),0,acs,rws)) (fun k=>(nbS l ((nxS p (nth l (i:Int))).take k),nbR l ((nxS p (nth l (i:Int))).take k),(k:Int))) 9 (fun k hk=>by
  have hpre:=jx l ((nxS p (nth l (i:Int))).take k)
  have hlen:=hpre.length_le
  have hB:=Kp l ((nxS p (nth l (i:Int))).take k)
  rw[List.length_take] at hB
  have hrl:(nbR l ((nxS p (nth l (i:Int))).take k)).length≤9:=by rw[dj,List.length_take];omega
  unfold dP
  simp only[fb]
  rw[if_pos (by simp;omega),aj (by omega) (by omega)];simp only[Option.bind_some]
  rw[im hpre (by omega) (by omega),Qx hl hb];simp only[Option.bind_some]
  rw[take_one (by omega),sE,qa,Oz hk]
  simp only[aa (show k<9223372036854775807 by omega)]
  by_cases c:aft p (nth l (i:Int)) k=0
  ·rw[if_pos c,if_neg (by simp[c])];simp only[Option.bind_some]
   rw[aw (by simp;omega)];rfl
  ·rw[if_neg c,if_pos (by simpa using c),Oy (by omega)];simp only[Option.bind_some]
   by_cases d:aft p (nth l (i:Int)) k∈nbS l ((nxS p (nth l (i:Int))).take k)
   ·rw[if_pos d,if_neg (by simp),kE d];simp only[Option.bind_some]
    rw[aw (by simp;omega)];rfl
   ·rw[if_neg d,if_pos (by decide),aw (by simp;omega),jy d];simp only[Option.bind_some]
    rw[aw (by simp;omega)];simp only[nbI,nf d,Option.bind_some]) (by
  unfold dP
  simp) (by unfold aD;omega)
 have e9:(nxS p (nth l (i:Int))).take 9=nxS p (nth l (i:Int)):=List.take_of_length_le (by omega)
 rw[e9] at this
 exact this
theorem TM:gg p most=some (goM (nxS p) 1 (sL p) most (most+2) 0):=by
 unfold gg
 rcases FM (nx:=nxS p) (first:=1) (acc:=sL p) (most:=most) (f:=dQ p most)
  (by omega) h1 (fun i s=>s=(bfS (nxS p) 1 i,(i:Int),0,((bfS (nxS p) 1 i).take i).map (sL p),bfR (nxS p) 1 i)) (by
   rintro i s rfl hj hle hlt
   have hil:=AQ hj
   have e:=Nn hl hb hm h1 (acs:=((bfS (nxS p) 1 i).take i).map (sL p)) (rws:=bfR (nxS p) 1 i) hlt hle
   have hl2:=(ba (nx:=nxS p) (first:=1) i).length_le
   constructor
   ·intro hgt
    unfold dQ
    simp only
    rw[if_pos (by simp;omega),af e,←ja hlt]
    simp only
    rw[if_pos (by simp;omega)]
   ·intro hle2
    unfold dQ
    simp only
    rw[if_pos (by simp;omega),af e,←ja hlt]
    simp only
    rw[if_neg (by simp;omega),aj (by omega) (by omega)];simp only[Option.bind_some]
    rw[im (ba i) (by omega) (by omega)]
    simp only[fb]
    rw[Sd];simp only[Option.bind_some]
    have hr:(bfR (nxS p) 1 i).length=i:=ij hj
    rw[aw (by simp;omega)];simp only[Option.bind_some]
    rw[aw (by simp;omega)];simp only[Option.bind_some,aa (show i<9223372036854775807 by omega)]
    exact ⟨_,rfl,by rw[vo hlt,sK hlt]⟩) (by
   rintro i s rfl hn
   unfold dQ
   simp only
   rw[if_neg (by simp;omega)]) (s:=([1],0,0,[],[])) rfl with ⟨e,hg⟩ | ⟨N,s',e,rfl,hN,hNm,hg⟩
 ·rw[bE e,hg]
 ·rw[af e,hg];simp only
  rw[List.take_of_length_le (by have:=hN.1;omega)]
end
end D
namespace D
open Go.RowKit
theorem No (m n:Int):orI m n=orI n m:=by unfold orI;rw[BitVec.or_comm]
def lk (F:List Int) (from_ to_:Int):Nat→List Int
 | 0=>F
 | i+1=>if Nl from_ i then (lk F from_ to_ i).set i (orI (nth (lk F from_ to_ i) (i:Int)) to_) else lk F from_ to_ i
theorem xm (F:List Int) (f t:Int): ∀i,(lk F f t i).length=F.length
 | 0=>rfl
 | i+1=>by
  rw[lk]
  split
  ·rw[List.length_set,xm]
  ·exact xm F f t i
theorem OA {p:C1} {f t:Int} (hl:p.2.2.2.1.length≤1000000):lr p f t=some (p.1,p.2.1,p.2.2.1,lk p.2.2.2.1 f t p.2.2.2.1.length,p.2.2.2.2):=by
 have hL:ai (gf f t) aD (0,p.2.2.2.1)=some (.brk ((p.2.2.2.1.length:Int),lk p.2.2.2.1 f t p.2.2.2.1.length)):=aA (f:=gf f t) (fun i=>((i:Int),lk p.2.2.2.1 f t i)) p.2.2.2.1.length (fun i hi=>by
  have hk:=xm p.2.2.2.1 f t i
  unfold gf
  simp only
  rw[if_pos (by simp;omega),py];simp only[Option.bind_some]
  rw[lk,aa (by omega)]
  by_cases c:Nl f i=true
  ·rw[if_pos c,if_pos c,aj (by omega) (by omega)];simp only[Option.bind_some,Int.toNat_natCast]
  ·rw[if_neg c,if_neg c];rfl) (by unfold gf;simp[xm]) (kp (by omega))
 unfold lr
 rw[af hL]
theorem FN {p:C1} {f t:Int} (hl:p.2.2.2.1.length≤1000000):cz p f t=some (p.1,p.2.1,p.2.2.1,lk p.2.2.2.1 f t p.2.2.2.1.length,p.2.2.2.2):=by
 have hL:ai (bQ p f t) aD (0,p.2.2.2.1)=some (.brk ((p.2.2.2.1.length:Int),lk p.2.2.2.1 f t p.2.2.2.1.length)):=aA (f:=bQ p f t) (fun i=>((i:Int),lk p.2.2.2.1 f t i)) p.2.2.2.1.length (fun i hi=>by
  have hk:=xm p.2.2.2.1 f t i
  unfold bQ
  simp only
  rw[if_pos (by simp;omega),py];simp only[Option.bind_some]
  rw[lk,aa (by omega)]
  by_cases c:Nl f i=true
  ·rw[if_pos c,if_pos c,aj (by omega) (by omega)];simp only[Option.bind_some,Int.toNat_natCast]
  ·rw[if_neg c,if_neg c];rfl) (by unfold bQ;simp) (kp (by omega))
 unfold cz
 rw[af hL]
def BOk (x:Tr Tok):Prop:= ∀(n m:Nat) (p:C1),(flat x).length≤n→(flat x).length≤m→p.2.2.2.1.length=p.1.length→p.1.length+(flat x).length≤100000→
 ∃(nu:Bool) (fi la:Int) (q:C1),cm n p (flat x)=some ((nu,fi,la),q)∧aS m p x=some ((fi,la,nu),q)∧q.2.2.2.1.length=q.1.length∧q.1.length≤p.1.length+(flat x).length
theorem Np {x:Tr Tok} (h:WT x):BOk x:=by
 refine WT.ind (p:=BOk) ?_ ?_ ?_ h
 ·intro t e n m p hn hm hF hl
  rw[ym] at hn hm hl⊢
  simp only[List.length_cons,List.length_nil] at hl
  match n,m,hn,hm with
  | n+1,m+1,_,_ =>
   rw[cm,aS];simp only[ni,Option.bind_some]
   have:=(k7 (A:=[]) (t:=t) (by simp)).1
   rw[List.nil_append] at this
   rw[this];simp only[Option.bind_some,fb]
   rcases lR (show 0≤ar t by omega) with ⟨k,_⟩ | ⟨k,_⟩ | ⟨_,k⟩
   ·omega
   ·omega
   rcases k with k | k | k
   ·exact ⟨false,0,0,p,by simp[k],by simp[k],hF,by simp⟩
   ·exact ⟨true,0,0,p,by simp[k],by simp[k],hF,by simp⟩
   ·refine ⟨false,sV 1 (p.1.length:Int),sV 1 (p.1.length:Int),(p.1++ [t.2.1],p.2.1,p.2.2.1,p.2.2.2.1++ [0],p.2.2.2.2),?_,?_,by simp[hF],by simp⟩
    ·rw[if_neg (by simp[k]),if_pos (by simp[k]),aw (by simp;omega)];simp only[Option.bind_some]
     rw[aw (by simp;omega)];rfl
    ·rw[if_neg (by simp[k]),if_pos (by simp[k]),aw (by simp;omega)];simp only[Option.bind_some]
     rw[aw (by simp;omega)];rfl
 ·intro t a e wa ih n m p hn hm hF hl
  rw[AJ] at hn hm hl⊢
  simp only[List.length_append,List.length_cons,List.length_nil] at hn hm hl
  match n,m,hn,hm with
  | n+1,m+1,hn,hm =>
   rw[cm,aS];simp only[ni,Option.bind_some,fb]
   obtain ⟨l1,l2⟩:=k7 (A:=flat a) (t:=t) (by omega)
   rw[l1];simp only[Option.bind_some]
   obtain ⟨nu,fi,la,q,hs,hi,hq1,hq2⟩:=ih n m p (by omega) (by omega) hF (by omega)
   rcases Nh e with ⟨k1,k2⟩ | ⟨k1,k2,k3⟩
   ·have g2:(t.1==2)=false:=by simp[k2]
    have g3:(t.1==3)=false:=by simp[k2]
    have g4:(t.1==4)=false:=by simp[k2]
    have g5:(t.1==5)=false:=by simp[k2]
    simp only[g2,g3,g4,g5,k1,Bool.false_eq_true,if_false,if_true]
    rw[l2,Int.toNat_natCast,List.take_left,kK (by simp only[List.length_append,List.length_cons,List.length_nil];omega)];simp only[Option.bind_some]
    rw[hs,show az [a] 0=some a from rfl];simp only[Option.bind_some]
    rw[hi];simp only[Option.bind_some,fb]
    rw[OA (by omega),FN (by omega)];simp only[Option.bind_some]
    refine ⟨true,fi,la,_,rfl,rfl,?_,?_⟩
    ·simp only[xm];exact hq1
    ·simp only[List.length_append,List.length_cons,List.length_nil];omega
   ·have g2:(t.1==2)=false:=by simp[k3]
    have g3:(t.1==3)=false:=by simp[k3]
    have g4:(t.1==4)=false:=by simp[k3]
    have g5:(t.1==5)=false:=by simp[k3]
    simp only[g2,g3,g4,g5,k1,Bool.false_eq_true,if_false]
    exact ⟨false,0,0,p,rfl,rfl,hF,by omega⟩
 ·intro t a b e wa wb iha ihb n m p hn hm hF hl
  rw[rq] at hn hm hl⊢
  have hl2:((flat a++flat b)++ [t]).length≤1000000:=by omega
  obtain ⟨p1,p2,p3,p4⟩:=xl (a:=a) (t:=t) wb hl2
  simp only[List.length_append,List.length_cons,List.length_nil] at hn hm hl
  match n,m,hn,hm with
  | n+1,m+1,hn,hm =>
   have hpa:=wa.pos
   have hpb:=wb.pos
   rw[cm,aS];simp only[ni,Option.bind_some,fb]
   obtain ⟨l1,l2⟩:=k7 (A:=flat a++flat b) (t:=t) (by rw[List.length_append];omega)
   rw[l1];simp only[Option.bind_some]
   obtain ⟨nu,fi,la,q,hs,hi,hq1,hq2⟩:=iha n m p (by omega) (by omega) hF (by omega)
   obtain ⟨nu2,fi2,la2,q2,hs2,hi2,hq3,hq4⟩:=ihb n m q (by omega) (by omega) hq1 (by omega)
   have c1: ∀r:Int,0≤r→r≤((flat a++flat b++ [t]).length:Int)→chk (0≤r∧r≤((flat a++flat b++ [t]).length:Int))=some ():=fun r h1 h2=>kK ⟨h1,h2⟩
   have g0:az [a,b] 0=some a:=rfl
   have g1:az [a,b] 1=some b:=rfl
   rcases lR (show 0≤ar t by omega) with ⟨_,k⟩ | ⟨k,_⟩ | ⟨k,_⟩
   ·rcases k with k | k
    ·have g2:(t.1==2)=false:=by simp[k]
     have g3:(t.1==3)=false:=by simp[k]
     have g4:(t.1==4)=true:=by simp[k]
     have g5:(t.1==5)=false:=by simp[k]
     simp only[g2,g3,g4,g5,Bool.false_eq_true,if_false,if_true]
     rw[l2,p1,p2,kK (by simp only[List.length_append,List.length_cons,List.length_nil];omega)];simp only[Option.bind_some]
     rw[kK (by simp only[List.length_append,List.length_cons,List.length_nil];omega),p3,p4,hs,g0,g1];simp only[Option.bind_some]
     rw[hi,kK (by simp only[List.length_append,List.length_cons,List.length_nil];omega)];simp only[Option.bind_some,fb]
     rw[hs2,hi2];simp only[Option.bind_some,fb]
     rw[OA (by omega),FN (by omega)];simp only[Option.bind_some]
     refine ⟨nu&&nu2,if nu then orI fi fi2 else fi,if nu2 then orI la la2 else la2,(q2.1,q2.2.1,q2.2.2.1,lk q2.2.2.2.1 la fi2 q2.2.2.2.1.length,q2.2.2.2.2),?_,?_,?_,?_⟩
     ·cases nu <;> cases nu2 <;> rfl
     ·rw[No la la2]
      cases nu <;> cases nu2 <;> rfl
     ·simp only[xm];exact hq3
     ·simp only[List.length_append,List.length_cons,List.length_nil];omega
    ·have g2:(t.1==2)=false:=by simp[k]
     have g3:(t.1==3)=false:=by simp[k]
     have g4:(t.1==4)=false:=by simp[k]
     have g5:(t.1==5)=true:=by simp[k]
     simp only[g2,g3,g4,g5,Bool.false_eq_true,if_false,if_true]
     rw[l2,p1,p2,kK (by simp only[List.length_append,List.length_cons,List.length_nil];omega)];simp only[Option.bind_some]
     rw[kK (by simp only[List.length_append,List.length_cons,List.length_nil];omega),p3,p4,hs,g0,g1];simp only[Option.bind_some]
     rw[hi,kK (by simp only[List.length_append,List.length_cons,List.length_nil];omega)];simp only[Option.bind_some,fb]
     rw[hs2,hi2];simp only[Option.bind_some,fb]
     refine ⟨nu || nu2,orI fi fi2,orI la la2,q2,?_,?_,hq3,?_⟩
     ·cases nu <;> simp
     ·cases nu <;> simp
     ·simp only[List.length_append,List.length_cons,List.length_nil];omega
   ·omega
   ·omega
def Eo (e:List Tok):Nat→Nat
 | 0=>0
 | i+1=>if (nth e (i:Int)).1=3 then Eo e i+1 else Eo e i
theorem Ep (e:List Tok): ∀i,Eo e i≤i
 | 0=>Nat.le_refl _
 | i+1=>by
  have:=Ep e i
  rw[Eo];split <;> omega
theorem TN {r:List Tok×Bool} (hl:r.1.length≤1000000):ai (cn r) aD (0,0)=some (.brk ((Eo r.1 r.1.length:Int),(r.1.length:Int))):=
 aA (f:=cn r) (fun i=>((Eo r.1 i:Int),(i:Int))) r.1.length (fun i hi=>by
  have:=Ep r.1 i
  unfold cn
  simp only
  rw[if_pos (by simp;omega),aj (by omega) (by omega)];simp only[Option.bind_some]
  rw[Eo,aa (show i<9223372036854775807 by omega),aa (show Eo r.1 i<9223372036854775807 by omega)]
  by_cases c:(nth r.1 (i:Int)).1=3
  ·rw[if_pos (by simpa using c),if_pos c];rfl
  ·rw[if_neg (by simpa using c),if_neg c];rfl) (by unfold cn;simp) (kp (by omega))
theorem TO {r:List Tok×Bool} (hl:r.1.length≤1000000):ai (cr r) aD (0,0)=some (.brk ((Eo r.1 r.1.length:Int),(r.1.length:Int))):=
 aA (f:=cr r) (fun i=>((Eo r.1 i:Int),(i:Int))) r.1.length (fun i hi=>by
  have:=Ep r.1 i
  unfold cr
  simp only
  rw[if_pos (by simp;omega),aj (by omega) (by omega)];simp only[Option.bind_some]
  rw[Eo,aa (show i<9223372036854775807 by omega),aa (show Eo r.1 i<9223372036854775807 by omega)]
  by_cases c:(nth r.1 (i:Int)).1=3
  ·rw[if_pos (by simpa using c),if_pos c];rfl
  ·rw[if_neg (by simpa using c),if_neg c];rfl) (by unfold cr;simp) (kp (by omega))
theorem ru {e:List Tok} (he:e.length≤1048576): ∃r:C1×Bool,eU e=some r∧eV e=some r∧r.1.2.2.2.1.length=r.1.1.length∧r.1.1.length≤100000:=by
 have hF:=sJ
 obtain ⟨e1,e2⟩:=El he
 unfold eU eV
 rw[e1,e2];simp only[Option.bind_some]
 by_cases c:(Hg e).2=true
 ·obtain ⟨y,wy,ey,ly⟩:=Qu c
  rw[if_pos c,if_pos c,af (TN (by rw[ey];omega)),af (TO (by rw[ey];omega))]
  simp only
  by_cases d:(Eo (Hg e).1 (Hg e).1.length:Int)>20
  ·have d':decide ((Eo (Hg e).1 (Hg e).1.length:Int)>20)=true:=decide_eq_true d
   simp only[d',if_true]
   exact ⟨_,rfl,rfl,rfl,by simp⟩
  ·have d':decide ((Eo (Hg e).1 (Hg e).1.length:Int)>20)=false:=decide_eq_false d
   simp only[d',Bool.false_eq_true,if_false]
   rw[ey,AL (by omega),tP wy];simp only[Option.bind_some]
   obtain ⟨nu,fi,la,q,hs,hi,hq1,hq2⟩:=Np wy eK eK ([],0,0,[],false) (by omega) (by omega) rfl (by simp;omega)
   rw[hs,hi];simp only[Option.bind_some]
   exact ⟨_,rfl,rfl,hq1,by simp at hq2;show q.1.length≤_;omega⟩
 ·rw[if_neg c,if_neg c]
  exact ⟨_,rfl,rfl,rfl,by simp⟩
end D
namespace D
open Go.RowKit
theorem Hi {κ:Type} [DecidableEq κ] {l m:List κ} (h:l <+:m) {y:κ} (hy:y∈l):(m.idxOf y:Int)=l.idxOf y:=by
 obtain ⟨t,rfl⟩:=h
 rw[List.idxOf_append,if_pos hy]
theorem OB {κ:Type} [DecidableEq κ] : ∀(l:List κ) (os:List (Option κ)) (i:Nat),i<os.length→nth (nbR l os) (i:Int)=nbI (nbS l os) (nth os (i:Int))
 | l,o::os,0,_=>by
  show nbI l o=nbI (nbS (nbL l o) os) o
  cases o with
  | none=>rfl
  | some y =>
   have hm:y∈nbL l (some y):=JX.2 (.inr rfl)
   simp only[nbI]
   rw[Hi (jx _ os) hm]
   by_cases c:y∈l
   ·rw[kE c]
   ·rw[jy c,List.idxOf_append,if_neg c,nf c];simp
 | l,o::os,i+1,h=>by
  have h':i<os.length:=by simpa using h
  have ih:=OB (nbL l o) os i h'
  have e1:nth (nbR l (o::os)) ((i+1:Nat):Int)=nth (nbR (nbL l o) os) (i:Int):=by
   rw[bw (by rw[dj];exact h),bw (by rw[dj];exact h')];rfl
  have e2:nth (o::os) ((i+1:Nat):Int)=nth os (i:Int):=by rw[bw h,bw h'];rfl
  rw[e1,e2];exact ih
theorem mG {κ:Type} [DecidableEq κ] {l:List κ} {y:κ} (h:y∈l): ∃(q:Nat) (hq:q<l.length),nbI l (some y)=(q:Int)∧l[q] =y:=
 ⟨l.idxOf y,List.idxOf_lt_length_of_mem h,rfl,by simp⟩
theorem AR {κ:Type} [DecidableEq κ] {l:List κ} {y:κ} (h:y∉l):nbI l (some y)=(l.length:Int):=by simp only[nbI,nf h]
def OC:List Int→Nat→Nat→Prop
 | [],c,m=>c=m
 | x::xs,c,m=>(x= -1∧OC xs c m)∨(0≤x∧x<c∧OC xs c m)∨(x=c∧OC xs (c+1) m)
theorem AS {κ:Type} [DecidableEq κ] : ∀(os:List (Option κ)) (l:List κ),OC (nbR l os) l.length (nbS l os).length
 | [],l=>rfl
 | none::os,l=>.inl ⟨rfl,AS os l⟩
 | some y::os,l=>by
  by_cases c:y∈l
  ·refine .inr (.inl ⟨Int.natCast_nonneg _,?_,?_⟩)
   ·have:=List.idxOf_lt_length_of_mem c
    simp only[nbI];omega
   ·show OC (nbR (nbL l (some y)) os) l.length (nbS (nbL l (some y)) os).length
    rw[kE c];exact AS os l
  ·refine .inr (.inr ⟨by simp only[nbI,nf c],?_⟩)
   show OC (nbR (nbL l (some y)) os) (l.length+1) (nbS (nbL l (some y)) os).length
   have:=AS os (l++ [y])
   rw[jy c]
   simpa using this
def S8:List Int→List (Option (List Int))→Prop
 | [],[] =>True
 | x::xs,o::os=>((x<0∧o=none)∨(0≤x∧ ∃t,o=some (x::t)))∧S8 xs os
 | _,_=>False
theorem Kq: ∀(xs:List Int) (os:List (Option (List Int))),xs.length=os.length→(∀i (h:i<xs.length) (h':i<os.length),(xs[i] < 0∧os[i] =none)∨(0≤xs[i] ∧ ∃t,os[i] =some (xs[i] ::t)))→S8 xs os
 | [],[],_,_=>trivial
 | x::xs,o::os,hl,h=>⟨h 0 (by simp) (by simp),Kq xs os (by simpa using hl) fun i h1 h2=>h (i+1) (by simpa using h1) (by simpa using h2)⟩
theorem lS: ∀(xs:List Int) (os:List (Option (List Int))) (l:List (List Int)) (c m:Nat),S8 xs os→OC xs c m→(∀y∈l,∃h t,y=h::t∧h<c)→
  m+l.length≤(nbS l os).length+c∧(l.length=c→(∀(q:Nat) (hq:q<l.length),∃t,l[q] =(q:Int)::t)→(nbS l os).length=m→nbR l os=xs)
 | [],[],l,c,m,_,hn,_=>by
  have hn:c=m:=hn
  subst hn
  exact ⟨by simp[nbS];omega,fun _ _ _=>rfl⟩
 | x::xs,o::os,l,c,m,hr,hn,hh=>by
  obtain ⟨hr1,hr2⟩:=hr
  rcases hn with ⟨rfl,hn⟩ | ⟨hx0,hxc,hn⟩ | ⟨rfl,hn⟩
  ·have ho:o=none:=by
    rcases hr1 with ⟨-,h⟩ | ⟨h,-⟩
    ·exact h
    ·omega
   subst ho
   obtain ⟨i1,i2⟩:=lS xs os l c m hr2 hn hh
   exact ⟨i1,fun h1 h2 h3=>by show -1::nbR l os=_;rw[i2 h1 h2 h3]⟩
  ·obtain ⟨t,rfl⟩: ∃t,o=some (x::t):=by
    rcases hr1 with ⟨h,-⟩ | ⟨-,h⟩
    ·omega
    ·exact h
   by_cases k:(x::t)∈l
   ·obtain ⟨i1,i2⟩:=lS xs os l c m hr2 hn hh
    have hb:nbL l (some (x::t))=l:=kE k
    refine ⟨by show m+l.length≤(nbS (nbL l (some (x::t))) os).length+c;rw[hb];exact i1,fun h1 h2 h3=>?_⟩
    have h3:(nbS (nbL l (some (x::t))) os).length=m:=h3
    rw[hb] at h3
    obtain ⟨q,hq,e1,e2⟩:=mG k
    obtain ⟨t',ht'⟩:=h2 _ hq
    rw[e2] at ht'
    have:x=(q:Int):=by injection ht'
    show nbI l (some (x::t))::nbR (nbL l (some (x::t))) os=_
    rw[e1,←this,hb,i2 h1 h2 h3]
   ·have hb:nbL l (some (x::t))=l++ [x::t]:=jy k
    obtain ⟨i1,i2⟩:=lS xs os (l++ [x::t]) c m hr2 hn (fun y hy=>by
     rcases List.mem_append.1 hy with hy | hy
     ·exact hh y hy
     ·obtain rfl:=List.mem_singleton.1 hy
      exact ⟨x,t,rfl,hxc⟩)
    rw[List.length_append,List.length_singleton] at i1
    refine ⟨by show m+l.length≤(nbS (nbL l (some (x::t))) os).length+c;rw[hb];omega,fun h1 h2 h3=>?_⟩
    have h3:(nbS (nbL l (some (x::t))) os).length=m:=h3
    rw[hb] at h3
    omega
  ·obtain ⟨t,rfl⟩: ∃t,o=some ((c:Int)::t):=by
    rcases hr1 with ⟨h,-⟩ | ⟨-,h⟩
    ·omega
    ·exact h
   have k:((c:Int)::t)∉l:=fun k=>by
    obtain ⟨h,t',e,hlt⟩:=hh _ k
    have:(c:Int)=h:=by injection e
    omega
   have hb:nbL l (some ((c:Int)::t))=l++ [(c:Int)::t]:=jy k
   obtain ⟨i1,i2⟩:=lS xs os (l++ [(c:Int)::t]) (c+1) m hr2 hn (fun y hy=>by
    rcases List.mem_append.1 hy with hy | hy
    ·obtain ⟨h,t',e,hlt⟩:=hh y hy
     exact ⟨h,t',e,by omega⟩
    ·obtain rfl:=List.mem_singleton.1 hy
     exact ⟨c,t,rfl,by omega⟩)
   have hlen:(l++ [(c:Int)::t]).length=l.length+1:=by simp
   rw[hlen] at i1
   refine ⟨by show m+l.length≤(nbS (nbL l (some ((c:Int)::t))) os).length+c;rw[hb];omega,fun h1 h2 h3=>?_⟩
   have h3:(nbS (nbL l (some ((c:Int)::t))) os).length=m:=h3
   rw[hb] at h3
   have:=i2 (by rw[hlen,h1]) (fun q hq=>by
    by_cases e:q<l.length
    ·rw[List.getElem_append_left e];exact h2 q e
    ·have e:q=l.length:=by omega
     subst e
     exact ⟨t,by simp;omega⟩) h3
   show nbI l (some ((c:Int)::t))::nbR (nbL l (some ((c:Int)::t))) os=_
   rw[hb,this,AR k,h1]
theorem Er (xs ys:List Int) (hN:xs.length≤1048576): ∃r,mN xs ys=some r∧(r=0↔xs=ys):=by
 unfold mN
 have h0:=R4 (f:=l9 xs ys) xs ys (fun i h h'=>by
  simp only[l9,bS h,bS h',if_true,aq h,aq h',Option.bind_some,aa (show i<9223372036854775807 by omega)]
  by_cases h1:xs[i] < ys[i]
  ·simp[h1]
  ·by_cases h2:xs[i] > ys[i]
   ·simp[h1,h2]
   ·simp[h1,h2]) (fun i hi=>by
  simp only[l9]
  by_cases h1:i<xs.length
  ·have h2: ¬i<ys.length:=by omega
   simp[h1,h2]
  ·simp[h1]) xs.length 0 aD (by omega) (ox _ (by omega))
 rw[show (((0:Nat):Int))=(0:Int) from rfl] at h0
 rcases h0 with ⟨r,e,h1,h2⟩ | ⟨s,e,h1⟩
 ·exact ⟨r,by rw[e];rfl,by simp[h1,h2]⟩
 ·rw[e]
  simp only[ay]
  by_cases c1:xs.length<ys.length
  ·exact ⟨-1,by simp[c1],by simp;intro e;subst e;omega⟩
  ·by_cases c2:xs.length>ys.length
   ·exact ⟨1,by simp[c1,c2],by simp;intro e;subst e;omega⟩
   ·exact ⟨0,by simp[c1,c2],by simpa using h1 (by omega)⟩
theorem CI (xs ys:List Int) (hN:xs.length≤9223372036854775807):bX xs ys=some (decide (xs=ys)):=
 eqL (f:=bF xs ys) xs ys hN (fun i h h'=>by
  simp only[bF,bS h,if_true,aq h,aq h',Option.bind_some,aa (show i<9223372036854775807 by omega)]
  by_cases c:xs[i] =ys[i] <;> simp[c]) (by simp only[bF,bm];rfl)
def HC (a:AutT):List Int:=(List.range a.2.1.length).map fun s:Nat=>if nth (live a) (s:Int)=true then (if nth a.2.1 (s:Int)=true then 1 else 0) else -1
def ent (a:AutT) (c:List Int) (s:Int) (k:Nat):Int:=if mv a s k<0 then -1 else nth c (mv a s k)
def AT (a:AutT) (c:List Int) (s:Int):List Int:=nth c s::(List.range 9).map fun k=>ent a c s k
def A5 (a:AutT) (c:List Int) (s:Nat):Option (List Int):=if nth c (s:Int)<0 then none else some (AT a c s)
def keys (a:AutT) (c:List Int):List (Option (List Int)):=(List.range a.2.1.length).map (A5 a c)
def zi (a:AutT) (c:List Int):List Int:=nbR [] (keys a c)
def vp (a:AutT) (c:List Int):Nat:=(nbS [] (keys a c)).length
def cI (a:AutT):Nat→List Int
 | 0=>HC a
 | j+1=>zi a (cI a j)
section
variable {a:AutT} {n:Nat}
theorem cW (a:AutT) (c:List Int):(keys a c).length=a.2.1.length:=by simp[keys]
theorem Es {c:List Int} {s:Nat} (h:s<a.2.1.length):nth (keys a c) (s:Int)=A5 a c s:=by
 rw[bw (by simpa [keys] using h)];simp[keys]
theorem xn (a:AutT) (c:List Int):(zi a c).length=a.2.1.length:=by rw[zi,dj,cW]
theorem lT (a:AutT): ∀j,(cI a j).length=a.2.1.length
 | 0=>by simp[cI,HC]
 | j+1=>xn a _
theorem nU {κ:Type} [DecidableEq κ] : ∀(l:List κ) (os:List (Option κ)),(nbS l os).length≤l.length+os.length
 | l,[] =>by simp[nbS]
 | l,o::os=>by
  have h:=nU (nbL l o) os
  have:(nbL l o).length≤l.length+1:=by
   cases o with
   | none=>simp[nbL]
   | some x=>unfold nbL;simp only;split <;> simp
  show (nbS (nbL l o) os).length≤_
  rw[List.length_cons];omega
theorem Et (a:AutT) (c:List Int):vp a c≤a.2.1.length:=by
 have:=nU ([] :List (List Int)) (keys a c)
 rw[cW] at this
 simpa [vp] using this
theorem AU {c:List Int} {s:Nat} (h:s<a.2.1.length):nth (zi a c) (s:Int)=nbI (nbS [] (keys a c)) (A5 a c s):=by
 rw[zi,OB _ _ _ (by rw[cW];exact h),Es h]
theorem xo {c:List Int} {s:Nat} (h:s<a.2.1.length) (hc: ¬nth c (s:Int)<0):AT a c s∈nbS [] (keys a c):=by
 refine tM.2 (.inr ?_)
 refine List.mem_map.2 ⟨s,List.mem_range.2 h,?_⟩
 unfold A5;rw[if_neg hc]
theorem vq {c:List Int} {s:Nat} (h:s<a.2.1.length):(nth (zi a c) (s:Int)<0↔nth c (s:Int)<0)∧(nth (zi a c) (s:Int)<0→nth (zi a c) (s:Int)= -1):=by
 rw[AU h]
 unfold A5
 by_cases hc:nth c (s:Int)<0
 ·rw[if_pos hc];simp[nbI,hc]
 ·rw[if_neg hc]
  obtain ⟨q,hq,e,-⟩:=mG (xo h hc)
  rw[e]
  exact ⟨⟨fun h=>by omega,fun h=>absurd h hc⟩,fun h=>by omega⟩
theorem QA {c:List Int} {s:Nat} (h:s<a.2.1.length):nth (zi a c) (s:Int)<(a.2.1.length:Int):=by
 rw[AU h]
 unfold A5
 by_cases hc:nth c (s:Int)<0
 ·rw[if_pos hc];simp only[nbI];omega
 ·rw[if_neg hc]
  obtain ⟨q,hq,e,-⟩:=mG (xo h hc)
  have:=Et a c
  unfold vp at this
  rw[e];omega
theorem Kr {c:List Int} {s t:Nat} (hs:s<a.2.1.length) (ht:t<a.2.1.length) (h0:0≤nth (zi a c) (s:Int)) (h:nth (zi a c) (s:Int)=nth (zi a c) (t:Int)):AT a c s=AT a c t:=by
 have n1: ¬nth c (s:Int)<0:=fun k=>by have:=(vq hs).1.2 k;omega
 have n2: ¬nth c (t:Int)<0:=fun k=>by have:=(vq ht).1.2 k;omega
 rw[AU hs,AU ht] at h
 unfold A5 at h
 rw[if_neg n1,if_neg n2] at h
 obtain ⟨q,hq,e1,e2⟩:=mG (xo hs n1)
 obtain ⟨q',hq',e1',e2'⟩:=mG (xo ht n2)
 rw[e1,e1'] at h
 obtain rfl:q=q':=by omega
 rw[←e2,←e2']
theorem zj (a:AutT) {s:Nat} (h:s<a.2.1.length): ∀j,(nth (cI a j) (s:Int)<0↔nth (live a) (s:Int)=false)∧(nth (cI a j) (s:Int)<0→nth (cI a j) (s:Int)= -1)
 | 0=>by
  have e:nth (cI a 0) (s:Int)=if nth (live a) (s:Int)=true then (if nth a.2.1 (s:Int)=true then 1 else 0) else -1:=by
   show nth (HC a) (s:Int)=_
   rw[bw (by simpa [HC] using h)];simp[HC]
  rw[e]
  cases nth (live a) (s:Int) <;> cases nth a.2.1 (s:Int) <;> simp
 | j+1=>by
  have ih:=zj a h j
  have:=vq (c:=cI a j) h
  exact ⟨this.1.trans ih.1,this.2⟩
theorem OD (a:AutT) {s t:Nat} (hs:s<a.2.1.length) (ht:t<a.2.1.length): ∀j,0≤nth (cI a j) (s:Int)→nth (cI a j) (s:Int)=nth (cI a j) (t:Int)→nth a.2.1 (s:Int)=nth a.2.1 (t:Int)
 | 0,h0,h=>by
  have e: ∀ {s:Nat},s<a.2.1.length→nth (cI a 0) (s:Int)=if nth (live a) (s:Int)=true then (if nth a.2.1 (s:Int)=true then 1 else 0) else -1:=by
   intro s h
   show nth (HC a) (s:Int)=_
   rw[bw (by simpa [HC] using h)];simp[HC]
  rw[e hs] at h0 h
  rw[e ht] at h
  revert h0 h
  cases nth (live a) (s:Int) <;> cases nth a.2.1 (s:Int) <;> cases nth (live a) (t:Int) <;> cases nth a.2.1 (t:Int) <;> simp
 | j+1,h0,h=>by
  have k:=Kr (c:=cI a j) hs ht h0 h
  have h1:nth (cI a j) (s:Int)=nth (cI a j) (t:Int):=by
   unfold AT at k;injection k
  refine OD a hs ht j ?_ h1
  have:=(vq (c:=cI a j) hs).1
  by_cases q:nth (cI a j) (s:Int)<0
  ·have:=this.2 q
   have h0:0≤nth (zi a (cI a j)) (s:Int):=h0
   omega
  ·omega
theorem QB (a:AutT) (j:Nat):OC (cI a (j+1)) 0 (vp a (cI a j)):=AS (keys a (cI a j)) []
theorem Nq (a:AutT) {c:List Int} (hc:c.length=a.2.1.length):S8 c (keys a c):=by
 refine Kq _ _ (by rw[cW,hc]) fun i h h'=>?_
 have e1:c[i] =nth c (i:Int):=(bw h).symm
 have e2:(keys a c)[i] =A5 a c i:=by simp[keys]
 rw[e1,e2]
 unfold A5
 by_cases k:nth c (i:Int)<0
 ·exact .inl ⟨k,by rw[if_pos k]⟩
 ·exact .inr ⟨by omega,_,by rw[if_neg k];rfl⟩
theorem Ks (a:AutT) (j:Nat):vp a (cI a j)≤vp a (cI a (j+1))∧(vp a (cI a (j+1))=vp a (cI a j)→cI a (j+2)=cI a (j+1)):=by
 obtain ⟨h1,h2⟩:=lS (cI a (j+1)) (keys a (cI a (j+1))) [] 0 (vp a (cI a j)) (Nq a (lT a _)) (QB a j) (fun y hy=>by cases hy)
 exact ⟨by simpa [vp] using h1,fun h=>h2 rfl (fun q hq=>absurd hq (Nat.not_lt_zero q)) h⟩
theorem OE {j k:Nat} (h:cI a (j+1)=cI a j) (hk:j≤k):cI a k=cI a j:=by
 induction hk with
 | refl=>rfl
 | step _ ih=>rw[cI,ih];exact h
theorem Kt {j k:Nat} (h:cI a (j+1)=cI a j) (h':cI a (k+1)=cI a k):cI a j=cI a k:=by
 rcases Nat.le_total j k with e | e
 ·exact (OE h e).symm
 ·exact OE h' e
theorem QC (a:AutT): ∃j,j≤a.2.1.length∧cI a (j+1)=cI a j:=by
 by_cases h0:cI a 1=cI a 0
 ·exact ⟨0,Nat.zero_le _,h0⟩
 have hpos:1≤vp a (cI a 0):=by
  refine Nat.one_le_iff_ne_zero.2 fun hz=>h0 ?_
  have hnone: ∀s:Nat,s<a.2.1.length→nth (cI a 0) (s:Int)<0:=fun s hs=>by
   refine Classical.byContradiction fun k=>?_
   have:=xo (c:=cI a 0) hs k
   have hl:=List.length_pos_of_mem this
   unfold vp at hz;omega
  refine Qn (by rw[lT,lT]) fun i hi=>?_
  rw[lT] at hi
  have h1:=(zj a hi 0).2 (hnone i hi)
  have h2:=(zj a hi 1).2 (((zj a hi 1).1.trans (zj a hi 0).1.symm).2 (hnone i hi))
  rw[h1,h2]
 have key: ∀m,(∃j,j≤m∧cI a (j+1)=cI a j)∨m+1≤vp a (cI a m):=by
  intro m
  induction m with
  | zero=>exact .inr hpos
  | succ m ih =>
   rcases ih with ⟨j,hj,e⟩ | ih
   ·exact .inl ⟨j,by omega,e⟩
   ·obtain ⟨g1,g2⟩:=Ks a m
    by_cases e:vp a (cI a (m+1))=vp a (cI a m)
    ·exact .inl ⟨m+1,Nat.le_refl _,g2 e⟩
    ·exact .inr (by omega)
 rcases key a.2.1.length with h | h
 ·exact h
 ·have:=Et a (cI a a.2.1.length);omega
end
end D
end Go.Proofs.YtakjhbbbjbebdaaGreat
