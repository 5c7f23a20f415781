/- FnCompaction: for every input the law returns true and changes nothing that was there. Part 7 of 9. -/
import Derived.Test.YtphjdcoponilmaaGreatDoorCC5
set_option synthInstance.maxSize 20000
set_option synthInstance.maxHeartbeats 2000000
set_option linter.unusedVariables false
set_option linter.unusedSimpArgs false
set_option linter.unnecessarySimpa false
set_option linter.unusedSectionVars false
set_option maxRecDepth 1000000
namespace Go.Proofs.YtphjdcoponilmaaGreatDoor
open Go.IntKind (i64)
namespace R
open Go.RowKit
open D
theorem xf:FOk Tryz.prog 143 rO:=fk [(185,Ba),(186,xH),(187,wO)] ⟨Jh,Ds,EB,trivial⟩ Tryz.func143 (.t (.t (.t (.two (.t (.loop [.slot 7 (.own 3 y3),.s 8,.box 6 [(.num .i64),(.own 4 y4),(.own 65 y65)]] (.t (.two (.t (.two (.t (.loop [.slot 7 (.own 3 y3),.slot 9 (.own 3 y3),.s 10] (.t (.two (.t (.t (.join [.slot 7 (.own 3 y3),.s 12] .no .no))) .no)))) .no)) .no)))) .no))))
theorem EC:FOk Tryz.prog 295 wP:=fk [] trivial Tryz.func295 (.t (.t (.two (.t (.loop [.slot 1 (.own 3 y3),.s 2] .no)) .no)))
theorem G8:FOk Tryz.prog 249 yO:=fk [(186,xH),(295,wP)] ⟨Ds,EC,trivial⟩ Tryz.func249 (.t (.t (.t (.t (.t (.two (.t (.loop [.slot 8 (.own 3 y3),.slot 9 (.own 3 y3),.s 10,.box 7 [(.num .i64),(.own 4 y4),(.own 65 y65)]] (.t (.two (.t (.two (.t (.loop [.slot 8 (.own 3 y3),.slot 9 (.own 3 y3),.slot 11 (.own 3 y3),.s 12] (.t (.two (.t (.t (.join [.slot 8 (.own 3 y3),.slot 9 (.own 3 y3),.s 14] .no .no))) .no)))) .no)) .no)))) .no))))))
theorem Dt:FOk Tryz.prog 251 xI:=fk [] trivial Tryz.func251 (.t (.t (.two (.t (.loop [.row 3 4 y4,.s 4] (.t (.two (.t (.loop [.row 3 4 y4,.s 5] (.t (.two (.t (.loop [.row 3 4 y4,.s 6] (.t (.join [.row 3 4 y4] .no .no)))) .no)))) .no)))) .no)))
theorem Ow:FOk Tryz.prog 296 Fv:=fk [] trivial Tryz.func296 (.t (.t (.two (.t (.loop [.slot 7 (.own 3 y3),.s 8] (.t (.join [.slot 7 (.own 3 y3)] .no .no)))) .no)))
theorem ED:FOk Tryz.prog 250 wQ:=fk [(94,yN),(251,xI),(296,Fv)] ⟨Do,Dt,Ow,trivial⟩ Tryz.func250 (.t (.t (.t (.two (.t (.loop [.slot 4 (.own 3 y3),.s 5] (.t (.two (.t (.two (.t (.at [.s 6] .no)) (.two (.t (.at [.s 6] .no)) .no))) .no)))) (.two (.t (.loop [.slot 4 (.own 3 y3),.s 7] (.t (.two (.t (.t (.two (.t (.loop [.slot 8 (.own 65 y65),.slot 9 (.own 3 y3),.s 10] (.t (.two (.at [.slot 8 (.own 65 y65),.slot 9 (.own 3 y3)] (.t (.t (.t (.two (.t (.loop [.s 12,.s 13] (.t (.two (.at [.s 12] .no) .no)))) (.two (.t (.at [.slot 8 (.own 65 y65),.s 12,.gone 11] .no)) .no)))))) .no)))) .no))) .no)))) .no)))))
theorem Du:FOk Tryz.prog 197 uQ:=fk [(249,yO),(250,wQ),(251,xI)] ⟨G8,ED,Dt,trivial⟩ Tryz.func197 .no
theorem Dv:FOk Tryz.prog 153 uR:=fk [(141,nt),(143,rO),(197,uQ)] ⟨rr,xf,Du,trivial⟩ Tryz.func153 .no
theorem sK:FOk Tryz.prog 155 nX:=fk [(94,yN)] ⟨Do,trivial⟩ Tryz.func155 (.t (.t (.two (.t (.loop [.s 5] .no)) (.two (.t (.loop [.s 6] .no)) .no))))
theorem Ji:FOk Tryz.prog 154 Bb:=fk [(155,nX)] ⟨sK,trivial⟩ Tryz.func154 (.t (.two (.t (.loop [.s 5] .no)) .no))
theorem Bk:FOk Tryz.prog 108 uS:=fk [(55,jz),(107,wi),(153,uR),(154,Bb)] ⟨j7,Ax,Dv,Ji,trivial⟩ Tryz.func108 (.t (.t (.t (.two (.t (.loop [.s 5,.box 4 [(.own 113 jD),(.own 46 y46)]] (.t (.two (.t (.t (.t (.join [.s 8,.box 4 [(.own 113 jD),(.own 46 y46)],.gone 6] .no .no)))) .no)))) .no))))
theorem EE:FOk Tryz.prog 156 wR:=fk [] trivial Tryz.func156 (.t (.t (.two (.t (.loop [.s 5] .no)) .no)))
theorem xR:FOk Tryz.prog 109 qz:=fk [(155,nX),(156,wR)] ⟨sK,EE,trivial⟩ Tryz.func109 (.t (.t (.two (.t (.loop [.s 5] .no)) (.two (.t (.loop [.s 6] .no)) .no))))
theorem jC:FOk Tryz.prog 56 fX:=fk [(108,uS),(109,qz)] ⟨Bk,xR,trivial⟩ Tryz.func56 .no
theorem nA:FOk Tryz.prog 110 lz:=fk [] trivial Tryz.func110 (.t (.two (.t (.loop [.s 5] .no)) .no))
theorem KU:FOk Tryz.prog 57 C9:=fk [(16,cD),(55,jz),(110,lz)] ⟨de,j7,nA,trivial⟩ Tryz.func57 (.t (.two (.t (.loop [.s 3] .no)) .no))
theorem pM:FOk Tryz.prog 113 nw:=fk [] trivial Tryz.func113 (.t (.t (.t (.t (.two (.loop [.s 0,.slot 3 .str] (.t (.t (.two (.t (.at [.s 5] .no)) .no)))) .no)))))
theorem pg:FOk Tryz.prog 199 mf:=fk [(252,uP)] ⟨Bh,trivial⟩ Tryz.func199 .no
theorem xg:FOk Tryz.prog 160 rP:=fk [(55,jz),(113,nw),(199,mf)] ⟨j7,pM,pg,trivial⟩ Tryz.func160 .no
theorem vo:FOk Tryz.prog 112 qA:=fk [(160,rP)] ⟨xg,trivial⟩ Tryz.func112 (.t (.t (.t (.two (.t (.loop [.slot 3 .str,.s 4] (.t (.two (.atX [.slot 3 .str] (.t (.t (.two (.t (.at [.slot 3 .str] .no)) .no)))) .no)))) .no))))
theorem Jj:FOk Tryz.prog 114 Bc:=fk [] trivial Tryz.func114 (.t (.t (.two (.t (.loop [.s 3,.s 4] .no)) .no)))
theorem ph:FOk Tryz.prog 60 mg:=fk [(55,jz),(112,qA),(113,nw),(114,Bc)] ⟨j7,vo,pM,Jj,trivial⟩ Tryz.func60 .no
theorem zb:FOk Tryz.prog 157 uT:=fk [] trivial Tryz.func157 (.t (.t (.t (.two (.t (.loop [.slot 5 (.own 9 y9),.s 6,.s 7] (.t (.two (.at [.slot 5 (.own 9 y9),.s 6] .no) .no)))) .no))))
theorem Bl:FOk Tryz.prog 158 uU:=fk [(113,nw)] ⟨pM,trivial⟩ Tryz.func158 (.t (.t (.t (.two (.t (.loop [.s 4,.s 5,.s 6] (.t (.two (.at [.s 4,.s 5] .no) .no)))) (.two (.t (.at [.s 4] .no)) .no)))))
theorem vp:FOk Tryz.prog 222 qB:=fk [(199,mf)] ⟨pg,trivial⟩ Tryz.func222 (.t (.two (.t (.loop [.s 4] .no)) .no))
theorem G9:FOk Tryz.prog 198 yP:=fk [(157,uT),(158,uU),(160,rP),(222,qB)] ⟨zb,Bl,xg,vp,trivial⟩ Tryz.func198 .no
theorem EF:FOk Tryz.prog 159 wS:=fk [(112,qA),(157,uT),(198,yP)] ⟨vo,zb,G9,trivial⟩ Tryz.func159 (.t (.t (.t (.t (.two (.t (.loop [.s 6,.box 4 [(.own 153 (.prod y4 C7))]] .no)) .no)))))
theorem BF:FOk Tryz.prog 111 tU:=fk [(60,mg),(157,uT),(158,uU),(159,wS)] ⟨ph,zb,Bl,EF,trivial⟩ Tryz.func111 .no
theorem Dw:FOk Tryz.prog 59 xJ:=MQ (ps:=[.rd y9]) (A:=y65) (E:=72) (t:=y72) (B:=y3) (m:=m_s_ScanLog) (fk [(111,tU)] ⟨BF,trivial⟩ Tryz.func59 (.t (.t (.t (.t (.two (.t (.loop [.slot 5 (.own 3 y3),.slot 6 (.own 72 y72),.s 7,.s 8] (.t (.two (.atX [.slot 5 (.own 3 y3),.slot 6 (.own 72 y72),.s 7] .no) .no)))) .no))))))
theorem Ox:FOk Tryz.prog 58 Fw:=fk [(16,cD),(59,xJ)] ⟨de,Dw,trivial⟩ Tryz.func58 .no
theorem fJ:FOk Tryz.prog 24 eL:=fk [(43,dn),(56,fX),(57,C9),(58,Fw)] ⟨ej,jC,KU,Ox,trivial⟩ Tryz.func24 .no
theorem Oy:FOk Tryz.prog 25 Fx:=fk [(59,xJ),(60,mg)] ⟨Dw,ph,trivial⟩ Tryz.func25 (.t (.t (.t (.two (.t (.loop [.slot 8 .str,.s 9,.row 6 72 (.bag y72)] (.t (.two (.at [.slot 8 .str,.row 6 72 (.bag y72)] .no) .no)))) .no))))
theorem sL:FOk Tryz.prog 7 nY:=fk [(22,nW),(23,q9),(24,eL),(25,Fx)] ⟨qM,y8,fJ,Oy,trivial⟩ Tryz.func7 .no
theorem xh:FOk Tryz.prog 131 rQ:=fk [(43,dn),(105,lx)] ⟨ej,mM,trivial⟩ Tryz.func131 .no
theorem Ha:FOk Tryz.prog 81 yQ:=fk [(131,rQ)] ⟨xh,trivial⟩ Tryz.func81 .no
theorem gV:FOk Tryz.prog 40 fD:=fk [(17,cF)] ⟨cW,trivial⟩ Tryz.func40 .no
theorem xS:FOk Tryz.prog 82 tF:=fk [(17,cF),(40,fD)] ⟨cW,gV,trivial⟩ Tryz.func82 (.t (.t (.two (.t (.loop [.s 4,.cur 0,.box 3 [(.own 3 (.int .i64)),(.own 151 C7)]] .no)) (.t (.two (.t (.loop [.s 5,.s 6,.cur 0,.box 3 [(.own 3 (.int .i64)),(.own 151 C7)]] .no)) .no)))))
theorem sM:FOk Tryz.prog 132 nZ:=fk [(54,xF),(56,fX),(108,uS),(110,lz)] ⟨Dn,jC,Bk,nA,trivial⟩ Tryz.func132 (.t (.t (.t (.two (.loop [.s 8] .no) .no)))) (an:=[(40,(.fro y46)),(49,(.fro y46))])
theorem ze:FOk Tryz.prog 83 re:=fk [(22,nW),(24,eL),(132,nZ)] ⟨qM,fJ,sM,trivial⟩ Tryz.func83 .no
theorem KV:FOk Tryz.prog 221 Da:=fk [(113,nw),(199,mf)] ⟨pM,pg,trivial⟩ Tryz.func221 .no
theorem Oz:FOk Tryz.prog 174 Fy:=fk [(221,Da),(222,qB)] ⟨KV,vp,trivial⟩ Tryz.func174 (.t (.two (.t (.loop [.s 3] .no)) .no))
theorem Hb:FOk Tryz.prog 133 yR:=fk [(157,uT),(174,Fy),(175,qy)] ⟨zb,Oz,vn,trivial⟩ Tryz.func133 (.t (.t (.t (.two (.t (.loop [.s 6,.box 4 [(.own 202 Cb)]] .no)) .no))))
theorem OA:FOk Tryz.prog 134 Fz:=fk [(17,cF)] ⟨cW,trivial⟩ Tryz.func134 .no
theorem xT:FOk Tryz.prog 84 tG:=fk [(133,yR),(134,Fz)] ⟨Hb,OA,trivial⟩ Tryz.func84 .no
theorem Dx:FOk Tryz.prog 135 xK:=fk [] trivial Tryz.func135 (.t (.two (.t (.loop [.s 5] .no)) .no))
theorem xU:FOk Tryz.prog 85 qC:=fk [(22,nW),(24,eL),(55,jz),(110,lz),(135,xK)] ⟨qM,fJ,j7,nA,Dx,trivial⟩ Tryz.func85 (.t (.t (.t (.t (.two (.loop [.s 9] .no) .no)))))
theorem KW:FOk Tryz.prog 176 Db:=fk [(16,cD),(43,dn),(56,fX),(110,lz)] ⟨de,ej,jC,nA,trivial⟩ Tryz.func176 .no
theorem zf:FOk Tryz.prog 70 rf:=fk [(56,fX),(106,xE),(110,lz)] ⟨jC,Dm,nA,trivial⟩ Tryz.func70 .no
theorem KX:FOk Tryz.prog 206 Dc:=fk [(55,jz)] ⟨j7,trivial⟩ Tryz.func206 (.t (.t (.t (.two (.t (.loop [.s 4] (.t (.two (.t (.t (.loop [.s 5] .no))) .no)))) .no))))
theorem wF:FOk Tryz.prog 166 pw:=fk [(206,Dc)] ⟨KX,trivial⟩ Tryz.func166 .no
theorem KY:FOk Tryz.prog 124 Dd:=fk [(55,jz),(71,fo),(166,pw)] ⟨j7,gF,wF,trivial⟩ Tryz.func124 .no
theorem pN:FOk Tryz.prog 180 ny:=fk [] trivial Tryz.func180 (.t (.two (.t (.loop [.s 5] .no)) .no))
theorem xi:FOk Tryz.prog 208 rR:=fk [] trivial Tryz.func208 (.t (.t (.two (.loop [.s 1,.s 7] .no) .no)))
theorem OB:FOk Tryz.prog 259 FA:=fk [] trivial Tryz.func259 (.t (.t (.two (.t (.loop [.slot 5 (.own 236 ZN),.s 6] (.t (.join [.slot 5 (.own 236 ZN)] (.join [.slot 5 (.own 236 ZN)] .no .no) .no)))) .no)))
theorem Hc:FOk Tryz.prog 260 yS:=fk [] trivial Tryz.func260 .no
theorem RD:FOk Tryz.prog 261 Ja:=fk [] trivial Tryz.func261 .no
theorem Jk:FOk Tryz.prog 207 Bd:=fk [(180,ny),(208,rR),(259,FA),(260,yS),(261,Ja)] ⟨pN,xi,OB,Hc,RD,trivial⟩ Tryz.func207 (.t (.t (.t (.t (.two (.t (.loop [.slot 9 (.own 238 ab1),.s 12] (.t (.two (.t (.t (.two (.t (.loop [.s 14,.s 15] (.t (.join [.s 14] .no .no)))) (.t (.loop [.slot 9 (.own 238 ab1),.s 17] (.t (.join [.slot 9 (.own 238 ab1)] .no .no))))))) .no)))) .no)))))
theorem Jl:FOk Tryz.prog 167 Be:=fk [(207,Bd)] ⟨Jk,trivial⟩ Tryz.func167 (.t (.t (.t (.two (.t (.loop [.slot 8 (.own 3 y3),.s 9] .no)) (.t (.t (.two (.t (.loop [.row 8 3 y3,.slot 10 (.own 3 y3),.s 11] (.t (.two (.t (.t (.loop [.row 8 3 y3,.slot 10 (.own 3 y3),.s 13] (.t (.join [.row 8 3 y3,.slot 10 (.own 3 y3)] .no .no))))) .no)))) .no)))))))
theorem EG:FOk Tryz.prog 168 wT:=fk [(208,rR)] ⟨xi,trivial⟩ Tryz.func168 (.t (.t (.two (.t (.loop [.s 10] .no)) .no)))
theorem RE:FOk Tryz.prog 169 Jb:=fk [] trivial Tryz.func169 (.t (.t (.two (.t (.loop [.slot 3 (.own 3 y3),.s 4] (.t (.join [.slot 3 (.own 3 y3)] .no .no)))) .no)))
theorem KZ:FOk Tryz.prog 125 De:=fk [(167,Be),(168,wT),(169,Jb)] ⟨Jl,EG,RE,trivial⟩ Tryz.func125 (.t (.t (.t (.t (.two (.t (.loop [.s 9,.s 10] (.t (.join [.s 9] .no .no)))) .no)))))
theorem EH:FOk Tryz.prog 72 wU:=fk [(124,Dd),(125,De)] ⟨KY,KZ,trivial⟩ Tryz.func72 (.t (.t (.two (.t (.loop [.slot 5 (.own 83 y83),.s 6] (.t (.two (.t (.t (.loop [.slot 5 (.own 83 y83),.s 8] .no))) .no)))) .no)))
theorem ug:FOk Tryz.prog 31 pc:=fk [(70,rf),(71,fo),(72,wU)] ⟨zf,gF,EH,trivial⟩ Tryz.func31 .no
theorem K0:FOk Tryz.prog 224 Df:=fk [(16,cD),(43,dn),(55,jz),(105,lx)] ⟨de,ej,j7,mM,trivial⟩ Tryz.func224 .no
theorem OC:FOk Tryz.prog 317 FB:=fk [] trivial Tryz.func317 (.t (.two (.t (.loop [.s 5] .no)) .no))
theorem K4:FOk Tryz.prog 344 Dg:=fk [] trivial Tryz.func344 .no
theorem OD:FOk Tryz.prog 318 FC:=fk [(344,Dg)] ⟨K4,trivial⟩ Tryz.func318 (.t (.t (.two (.loop [.s 5] .no) .no))) (an:=[(36,.bool)])
theorem Az:FOk Tryz.prog 281 sC:=fk [(317,FB),(318,FC)] ⟨OC,OD,trivial⟩ Tryz.func281 (.t (.t (.two (.t (.loop [.slot 5 (.own 83 y83),.s 6] (.t (.join [.slot 5 (.own 83 y83)] .no .no)))) .no)))
theorem BG:FOk Tryz.prog 225 tV:=fk [(281,sC)] ⟨Az,trivial⟩ Tryz.func225 .no
theorem EJ:FOk Tryz.prog 177 wV:=fk [(31,pc),(224,Df),(225,tV)] ⟨ug,K0,BG,trivial⟩ Tryz.func177 .no
theorem Dy:FOk Tryz.prog 136 uV:=fk [(176,Db),(177,wV)] ⟨KW,EJ,trivial⟩ Tryz.func136 .no
theorem EK:FOk Tryz.prog 86 wW:=fk [(22,nW),(24,eL),(135,xK),(136,uV)] ⟨qM,fJ,Dx,Dy,trivial⟩ Tryz.func86 .no
theorem pY:FOk Tryz.prog 87 n9:=fk [(17,cF)] ⟨cW,trivial⟩ Tryz.func87 .no
theorem EL:FOk Tryz.prog 179 wX:=fk [(71,fo),(105,lx),(123,Ar),(180,ny)] ⟨gF,mM,FL,pN,trivial⟩ Tryz.func179 (.t (.t (.t (.two (.loop [.s 6] .no) .no))))
theorem EM:FOk Tryz.prog 181 wY:=fk [(71,fo),(105,lx),(180,ny)] ⟨gF,mM,pN,trivial⟩ Tryz.func181 .no
theorem Dz:FOk Tryz.prog 139 xL:=fk [(105,lx),(179,wX),(180,ny),(181,wY)] ⟨mM,EL,pN,EM,trivial⟩ Tryz.func139 (.t (.t (.two (.t (.loop [.s 7,.box 6 [(.own 3 y3),(.own 151 C7)]] (.t (.joinX [.box 6 [(.own 3 y3),(.own 151 C7)]] .no .no)))) .no)))
theorem EN:FOk Tryz.prog 178 wZ:=fk [(71,fo),(105,lx),(139,xL)] ⟨gF,mM,Dz,trivial⟩ Tryz.func178 .no
theorem vq:FOk Tryz.prog 137 qD:=fk [(16,cD),(43,dn),(53,wh),(178,wZ)] ⟨de,ej,Aw,EN,trivial⟩ Tryz.func137 (.t (.t (.t (.t (.t (.t (.two (.t (.at [.box 6 [(.num .i64),(.own 80 y80)]] .no)) .no))))))) (an:=[(48,.bool)])
theorem DA:FOk Tryz.prog 88 uW:=fk [(16,cD),(22,nW),(24,eL),(60,mg),(137,qD)] ⟨de,qM,fJ,ph,vq,trivial⟩ Tryz.func88 .no
theorem OE:FOk Tryz.prog 138 FD:=fk [(17,cF),(40,fD)] ⟨cW,gV,trivial⟩ Tryz.func138 (.t (.t (.two (.t (.at [.cur 0,.box 5 [(.num .i64),(.num .i64),(.num .i64),(.num .i64)]] .no)) .no)))
theorem DB:FOk Tryz.prog 89 xM:=fk [(17,cF),(87,n9),(105,lx),(138,FD),(139,xL)] ⟨cW,pY,mM,OE,Dz,trivial⟩ Tryz.func89 (.t (.t (.t (.two (.t (.loop [.s 9,.cur 0,.box 8 [(.own 3 y3),(.own 151 C7)],.box 7 [(.own 153 ady)]] (.t (.two (.at [.cur 0,.box 8 [(.own 3 y3),(.own 151 C7)],.box 7 [(.own 153 ady)]] (.t (.two (.t (.at [.cur 0,.box 10 [.boo,(.num .i64),(.num .i64),(.num .i64),(.num .i64)]] .no)) (.two (.t (.at [.box 10 [.boo,(.num .i64),(.num .i64),(.num .i64),(.num .i64)]] .no)) .no)))) .no)))) .no))))
theorem He:FOk Tryz.prog 39 yT:=fk [(7,nY),(16,cD),(17,cF),(81,yQ),(82,tF),(83,re),(84,tG),(85,qC),(86,wW),(87,n9),(88,uW),(89,xM)] ⟨sL,de,cW,Ha,xS,ze,xT,xU,EK,pY,DA,DB,trivial⟩ Tryz.func39 (.t (.t (.two (.t (.loop [.s 5,.cur 0,.box 3 [(.num .i64),(.own 80 y80),(.own 113 jD),(.own 46 y46),(.own 55 y55),.str]] .no)) (.two (.t (.loop [.s 6,.cur 0,.box 3 [(.num .i64),(.own 80 y80),(.own 113 jD),(.own 46 y46),(.own 55 y55),.str]] (.t (.two (.at [.cur 0,.box 3 [(.num .i64),(.own 80 y80),(.own 113 jD),(.own 46 y46),(.own 55 y55),.str]] .no) .no)))) .no)))) (tr:=[(46,0,.bool),(65,0,.bool),(80,0,.bool),(113,0,.bool)])
theorem DC:FOk Tryz.prog 90 uX:=fk [(17,cF),(84,tG),(132,nZ)] ⟨cW,xT,sM,trivial⟩ Tryz.func90 (.t (.t (.two (.t (.loop [.s 4,.cur 0,.box 3 [(.own 113 jD),(.own 46 y46)]] .no)) .no)))
theorem Hf:FOk Tryz.prog 140 yU:=fk [(17,cF),(87,n9)] ⟨cW,pY,trivial⟩ Tryz.func140 (.t (.t (.t (.two (.t (.loop [.s 5,.box 4 [(.num .i64),(.own 4 .bool),(.own 65 y65)],.cur 0] (.t (.two (.t (.two (.t (.loop [.slot 6 (.own 3 y3),.s 7,.cur 0] (.t (.two (.t (.two (.t (.at [.s 8,.cur 0] .no)) (.two (.t (.at [.s 8] .no)) .no))) .no)))) .no)) .no)))) .no))))
theorem EO:FOk Tryz.prog 231 w7:=fk [] trivial Tryz.func231 .no
theorem FN: ∀n,FOk Tryz.prog 184 (wk n)
 | 0=>lX (f:=wk 0) (enters_of Tryz.func184 (by kernel_rfl) rfl) rfl (fun d=>rfl)
 | n+1=>by
  have a:=FN n;exact fk [(17,cF),(40,fD),(87,n9),(184,(wk n)),(230,As),(231,w7),(232,wj)] ⟨cW,gV,pY,a,FM,EO,Ay,trivial⟩ Tryz.func184 (.t (.t (.two (.t (.two (.t (.at [.slot 20 .boo] .no)) (.t (.two (.t (.at [.slot 33 .boo] .no)) .no)))) .no)))
theorem OF:FOk Tryz.prog 142 FE:=fk [(17,cF),(84,tG),(87,n9),(184,(wk gj))] ⟨cW,xT,pY,(FN gj),trivial⟩ Tryz.func142 .no
theorem OG:FOk Tryz.prog 91 FF:=fk [(87,n9),(140,yU),(141,nt),(142,FE),(143,rO)] ⟨pY,Hf,rr,OF,xf,trivial⟩ Tryz.func91 .no
theorem OH:FOk Tryz.prog 41 FG:=fk [(17,cF),(40,fD),(90,uX),(91,FF)] ⟨cW,gV,DC,OG,trivial⟩ Tryz.func41 (.t (.t (.two (.t (.at [.cur 0,.box 3 [(.own 113 jD),(.own 46 y46)]] .no)) .no)))
theorem Hg:FOk Tryz.prog 92 yV:=fk [(17,cF),(40,fD),(82,tF),(89,xM),(131,rQ),(137,qD)] ⟨cW,gV,xS,DB,xh,vq,trivial⟩ Tryz.func92 (.t (.t (.two (.t (.loop [.s 5,.cur 0,.box 3 [(.num .i64),(.own 80 y80)]] .no)) .no))) (tr:=[(80,0,.bool)])
theorem RF:FOk Tryz.prog 93 Jc:=fk [(17,cF),(40,fD),(82,tF)] ⟨cW,gV,xS,trivial⟩ Tryz.func93 (.t (.t (.two (.t (.at [.cur 0,.box 3 [(.own 3 y3),(.own 151 C7)]] .no)) .no)))
theorem RG:FOk Tryz.prog 42 Jd:=fk [(17,cF),(40,fD),(92,yV),(93,Jc)] ⟨cW,gV,Hg,RF,trivial⟩ Tryz.func42 (.t (.t (.two (.t (.at [.cur 0,.box 3 [(.num .i64),(.own 80 y80)]] .no)) .no)))
theorem OI:FOk Tryz.prog 15 FH:=fk [(17,cF),(39,yT),(40,fD),(41,FG),(42,Jd)] ⟨cW,He,gV,OH,RG,trivial⟩ Tryz.func15 (.t (.t (.two (.t (.at [.cur 0,.box 3 [(.num .i64),(.own 80 y80),(.own 113 jD),(.own 46 y46),(.own 55 y55),.str]] .no)) .no)))
theorem vr:FOk Tryz.prog 5 oV:=fk [(14,I9),(15,FH),(16,cD),(17,cF)] ⟨RC,OI,de,cW,trivial⟩ Tryz.func5 .no
theorem vt:FOk Tryz.prog 48 oW:=GZ G5 (enters_of Tryz.func48 (by kernel_rfl) rfl)
theorem jb:FOk Tryz.prog 37 gE:=fk [] trivial Tryz.func37 .no
theorem BH:FOk Tryz.prog 104 tW:=Vz MR (enters_of Tryz.func104 (by kernel_rfl) rfl)
theorem zg:FOk Tryz.prog 51 tH:=fk [(104,tW)] ⟨BH,trivial⟩ Tryz.func51 .no
theorem FO:FOk Tryz.prog 120 Au:=fk [(37,gE)] ⟨jb,trivial⟩ Tryz.func120 .no
theorem xj:FOk Tryz.prog 102 rS:=fk [(51,tH),(120,Au)] ⟨zg,FO,trivial⟩ Tryz.func102 .no
theorem BJ:FOk Tryz.prog 103 tX:=VB VC RA 9 (enters_of Tryz.func103 (by kernel_rfl) rfl)
theorem vu:FOk Tryz.prog 50 qF:=fk [(102,rS),(103,tX)] ⟨xj,BJ,trivial⟩ Tryz.func50 (.t (.t (.t (.two (.t (.loop [.slot 3 (.own 9 y9),.s 15] (.t (.t (.two (.atX [.slot 3 (.own 9 y9)] .no) .no))))) .no))))
theorem Jm:FOk Tryz.prog 52 Bf:=fk [] trivial Tryz.func52 (.t (.t (.two (.t (.loop [.s 3,.s 4] .no)) .no)))
theorem uh:FOk Tryz.prog 21 pd:=fk [(37,gE),(50,qF),(51,tH),(52,Bf)] ⟨jb,vu,zg,Jm,trivial⟩ Tryz.func21 .no
theorem sN:FOk Tryz.prog 99 oc:=Rx Rz (by kernel_rfl) (by kernel_rfl) (enters_of Tryz.func99 (by kernel_rfl) rfl)
theorem DD (n a b:Int) (w:World):Calls Tryz.prog 37 #[.int .i64 n,.int .i64 a,.int .i64 b] w fun e c=>e= .returned (.bool (decide (a<=n/\n<=b)))/\c=w:=by
 by_cases h:a<=n
 ·go_enter Tryz.func37,Tryz.ntmps37
  go_wp2
  go_ret
  simp[h]
 ·go_enter Tryz.func37,Tryz.ntmps37
  go_wp2
  go_ret
  simp
  try (intro k;omega)
theorem K5 (s:ByteArray) (r:Int×Bool) (w:World) (hr:uM s=some r) (hL:LayW Tryz.prog w):Calls Tryz.prog 100 #[.string s] w fun e w'=>e= .returned (.tuple #[.int .i64 r.1,.bool r.2])/\Below w.heap.size w w':=by
 unfold uM at hr
 by_cases h10:10<s.size
 ·rw[if_pos h10] at hr
  obtain rfl:=ad hr
  go_enter Tryz.func100,Tryz.ntmps100
  go_wp2
  go_ret2
  exact ⟨rfl,Below.refl _ _⟩
 ·rw[if_neg h10] at hr
  have h18:s.size<=18:=by omega
  cases ha:Lib.atoi s.data.toList with
  | none =>
   rw[ha] at hr
   obtain rfl:=ad hr
   obtain ⟨tp,p,hv⟩:=hL.syn
   have hcon:=Any.strconv_Atoi_err_var MS s h18 ha tp p w hv
   go_enter Tryz.func100,Tryz.ntmps100
   go_wp2_with (go_at_call 147;refine hcon.mono ?_;rintro e w' ⟨N,rfl,hN,hh,hb⟩)
   go_ret2
   exact ⟨rfl,hb⟩
  | some n =>
   rw[ha] at hr
   have hB:=Lib.atoi_bound ha (by simpa using h18)
   have hA:=Any.strconv_Atoi { MS with } s n h18 ha w
   have hI:=fun t=>Any.strconv_Itoa MR n (by omega) (by omega) (Lib.bytesWorld w 5 t) (Lib.bytesWorld_var w 5 t hL.tab)
   have hz: ∀t k os,Below w.heap.size w (Go.Sort.grow ((Lib.bytesWorld w 5 t).drewN k) os):=fun t k os=>by
    have h1:=Lib.bytesWorld_below w 5 t
    exact ⟨h1.os,h1.tape,h1.output,by have:=h1.size;simp only[Go.Sort.grow,Array.size_append];exact Nat.le_trans this (Nat.le_add_right _ _),fun b hb=>(Go.Sort.heap_grow_old ((Lib.bytesWorld w 5 t).drewN k) os (aG hb h1.size:b<((Lib.bytesWorld w 5 t).drewN k).heap.size)).trans (h1.block b hb)⟩
   replace hr:(if (⟨(Lib.itoa n).toArray⟩:ByteArray)=s/\ -999999999<=n/\n<=999999999 then some (n,true) else some (0,false))=some r:=hr
   generalize (⟨(Lib.itoa n).toArray⟩:ByteArray)=q at hr hI
   by_cases e1:q=s
   ·subst e1
    by_cases e2: -999999999<=n/\n<=999999999
    ·rw[if_pos ⟨rfl,e2.1,e2.2⟩] at hr
     obtain rfl:=ad hr
     go_enter Tryz.func100,Tryz.ntmps100
     go_wp2_with (first | (go_at_call 147;refine hA.mono ?_;rintro e w' ⟨rfl,t,rfl⟩) | (go_at_call 104;refine (hI _).mono ?_;rintro e w' ⟨rfl,k,os,rfl⟩) | (go_at_call 37;refine (DD _ _ _ _).mono ?_;rintro e w' ⟨rfl,rfl⟩))
     go_ret2
     exact ⟨rfl,hz _ _ _⟩
    ·rw[if_neg fun k=>e2 k.2] at hr
     obtain rfl:=ad hr
     go_enter Tryz.func100,Tryz.ntmps100
     go_wp2_with (first | (go_at_call 147;refine hA.mono ?_;rintro e w' ⟨rfl,t,rfl⟩) | (go_at_call 104;refine (hI _).mono ?_;rintro e w' ⟨rfl,k,os,rfl⟩) | (go_at_call 37;refine (DD _ _ _ _).mono ?_;rintro e w' ⟨rfl,rfl⟩))
     go_ret2
     exact ⟨rfl,hz _ _ _⟩
   ·rw[if_neg fun k=>e1 k.1] at hr
    obtain rfl:=ad hr
    have e2: ¬q.toList=s.toList:=fun k=>e1 (Go.WideShapes.bytes_inj (by rw[<-ByteArray.toList_eq,<-ByteArray.toList_eq];exact k))
    go_enter Tryz.func100,Tryz.ntmps100
    go_wp2_with (first | (go_at_call 147;refine hA.mono ?_;rintro e w' ⟨rfl,t,rfl⟩) | (go_at_call 104;refine (hI _).mono ?_;rintro e w' ⟨rfl,k,os,rfl⟩) | (go_at_call 37;refine (DD _ _ _ _).mono ?_;rintro e w' ⟨rfl,rfl⟩))
    go_ret2
    exact ⟨rfl,hz _ _ _⟩
theorem Bm:FOk Tryz.prog 100 uY:=Ry (enters_of Tryz.func100 (by kernel_rfl) rfl) K5
theorem DE:FOk Tryz.prog 193 uZ:=ZJ ZL (by kernel_rfl) (enters_of Tryz.func193 (by kernel_rfl) rfl)
theorem Hh:FOk Tryz.prog 148 yW:=fk [(100,uY),(102,rS),(193,uZ)] ⟨Bm,xj,DE,trivial⟩ Tryz.func148 .no
theorem EP:FOk Tryz.prog 101 w8:=fk [(50,qF),(99,oc),(148,yW)] ⟨vu,sN,Hh,trivial⟩ Tryz.func101 (.t (.t (.t (.two (.t (.loop [.s 16,.box 4 [(.own 153 (.prod y4 C7))]] .no)) .no))))
theorem BK:FOk Tryz.prog 49 tY:=fk [(21,pd),(99,oc),(100,uY),(101,w8)] ⟨uh,sN,Bm,EP,trivial⟩ Tryz.func49 .no
theorem DF:FOk Tryz.prog 20 xN:=MQ (ps:=[.rd y9]) (A:=y65) (E:=72) (t:=y72) (B:=y3) (m:=m_i_ScanLog) (fk [(48,oW),(49,tY)] ⟨vt,BK,trivial⟩ Tryz.func20 (.t (.t (.t (.t (.two (.loop [.slot 5 (.own 3 y3),.slot 6 (.own 72 y72),.s 7] .no) .no))))))
theorem pj:FOk Tryz.prog 68 mi:=fk [(37,gE),(120,Au)] ⟨jb,FO,trivial⟩ Tryz.func68 (.t (.t (.two (.t (.loop [.s 14] .no)) (.two (.t (.loop [.s 25] .no)) .no))))
theorem eu:FOk Tryz.prog 77 df:=fk [] trivial Tryz.func77 (.t (.t (.two (.t (.loop [.s 13] .no)) .no)))
theorem j8:FOk Tryz.prog 34 gT:=fk [(37,gE),(68,mi),(77,df)] ⟨jb,pj,eu,trivial⟩ Tryz.func34 (.t (.t (.t (.two (.t (.loop [.s 24] .no)) .no))))
theorem dQ:FOk Tryz.prog 63 bP:=fk [] trivial Tryz.func63 (.t (.t (.two (.t (.loop [.s 17] .no)) .no)))
theorem pO:FOk Tryz.prog 116 jZ:=fk [] trivial Tryz.func116 (.t (.t (.two (.t (.loop [.s 13] .no)) .no)))
theorem gW:FOk Tryz.prog 117 dq:=fk [] trivial Tryz.func117 (.t (.t (.two (.t (.loop [.s 17] .no)) .no)))
theorem xV:FOk Tryz.prog 118 qG:=fk [(77,df)] ⟨eu,trivial⟩ Tryz.func118 .no
theorem sO:FOk Tryz.prog 64 od:=fk [(116,jZ),(117,dq),(118,qG)] ⟨pO,gW,xV,trivial⟩ Tryz.func64 .no
theorem dE:FOk Tryz.prog 65 bL:=fk [] trivial Tryz.func65 (.t (.t (.two (.t (.loop [.s 17] .no)) .no)))
theorem oZ:FOk Tryz.prog 161 jj:=fk [] trivial Tryz.func161 (.t (.t (.two (.t (.loop [.s 13] .no)) .no)))
theorem ER:FOk Tryz.prog 119 w9:=fk [(161,jj)] ⟨oZ,trivial⟩ Tryz.func119 .no
theorem BL:FOk Tryz.prog 66 tZ:=fk [(119,w9)] ⟨ER,trivial⟩ Tryz.func66 .no
theorem qN:FOk Tryz.prog 27 mz:=fk [(63,bP),(64,od),(65,bL),(66,tZ)] ⟨dQ,sO,dE,BL,trivial⟩ Tryz.func27 .no
theorem Bn:FOk Tryz.prog 97 vc:=fk [] trivial Tryz.func97 .no
theorem Bo:FOk Tryz.prog 299 vd:=fk [(37,gE)] ⟨jb,trivial⟩ Tryz.func299 .no
theorem K6:FOk Tryz.prog 272 Dh:=fk [(37,gE),(299,vd)] ⟨jb,Bo,trivial⟩ Tryz.func272 (.t (.two (.t (.t (.t (.t (.t (.join [.slot 37 .boo] .no .no)))))) .no))
theorem pn:FOk Tryz.prog 273 bR:=I5 (f:=bR) (lX (f:=⟨bR.ps,bR.rs,bR.m,none⟩) (enters_of Tryz.func273 (by kernel_rfl) rfl) rfl (fun d=>rfl)) (ML (V:=⟨tt,[],[(5,.raw)],8,[]⟩) Ot trivial mixed Tryz.func273 rfl rfl (enters_of Tryz.func273 (by kernel_rfl) rfl) (bB rfl) .no (fun E a b=>by cases a <;> kernel_rfl))
theorem AA:FOk Tryz.prog 215 wm:=fk [(272,Dh),(273,bR)] ⟨K6,pn,trivial⟩ Tryz.func215 (.t (.t (.two (.t (.loop [.slot 3 (.own 246 aea),.s 13] (.t (.t (.two (.t (.t (.two (.t (.at [.s 6] (.two (.t (.at [.slot 19 .boo] .no)) (.t (.two (.t (.at [.slot 22 .boo] .no)) .no))))) .no))) .no))))) .no))) (tr:=[(299,246,Cb)])
theorem OJ:FOk Tryz.prog 312 FI:=fk [(215,wm)] ⟨AA,trivial⟩ Tryz.func312 .no (tr:=[(299,246,Cb)])
theorem DG:FOk Tryz.prog 267 ve:=fk [(312,FI)] ⟨OJ,trivial⟩ Tryz.func267 .no
theorem xk: ∀n,FOk Tryz.prog 268 (oJ n)
 | 0=>lX (f:=oJ 0) (enters_of Tryz.func268 (by kernel_rfl) rfl) rfl (fun d=>rfl)
 | n+1=>by
  have a:=xk n;exact fk [(268,(oJ n))] ⟨a,trivial⟩ Tryz.func268 (.t (.t (.two (.t (.loop [.s 3,.s 11] (.t (.t (.two (.at [.s 3] .no) .no))))) .no))) (tr:=[(299,246,Cb)])
theorem VF:FOk Tryz.prog 340 MV:=fk [] trivial Tryz.func340 .no (tr:=[(299,246,Cb)])
theorem Bp: ∀n,FOk Tryz.prog 313 (rh n)
 | 0=>lX (f:=rh 0) (enters_of Tryz.func313 (by kernel_rfl) rfl) rfl (fun d=>rfl)
 | n+1=>by
  have a:=Bp n;exact fk [(313,(rh n)),(340,MV)] ⟨a,VF,trivial⟩ Tryz.func313 .no (tr:=[(299,246,Cb)])
theorem vv: ∀n,FOk Tryz.prog 269 (nz n)
 | 0=>lX (f:=nz 0) (enters_of Tryz.func269 (by kernel_rfl) rfl) rfl (fun d=>rfl)
 | n+1=>by
  have a:=vv n;exact fk [(269,(nz n)),(313,(rh gj))] ⟨a,(Bp gj),trivial⟩ Tryz.func269 (.t (.t (.t (.two (.t (.loop [.s 41,.box 3 [(.num .i64),(.num .i64),(.num .i64),(.num .i64),(.own 246 (.tree 299 246 Cb))]] .no)) .no)))) (an:=[(52,t246)]) (tr:=[(299,246,Cb)])
theorem ui: ∀n,FOk Tryz.prog 314 (mj n)
 | 0=>lX (f:=mj 0) (enters_of Tryz.func314 (by kernel_rfl) rfl) rfl (fun d=>rfl)
 | n+1=>by
  have a:=ui n;exact fk [(314,(mj n))] ⟨a,trivial⟩ Tryz.func314 (.two (.t (.loop [.s 11,.box 1 [(.own 202 Cb)]] .no)) .no) (tr:=[(299,246,Cb)])
theorem Hi:FOk Tryz.prog 270 yX:=fk [(314,(mj gj))] ⟨(ui gj),trivial⟩ Tryz.func270 .no (tr:=[(299,246,Cb)])
theorem ES:FOk Tryz.prog 213 xa:=fk [(215,wm),(267,ve),(268,(oJ gj)),(269,(nz gj)),(270,yX)] ⟨AA,DG,(xk gj),(vv gj),Hi,trivial⟩ Tryz.func213 .no (tr:=[(299,246,Cb)])
theorem wG:FOk Tryz.prog 271 px:=fk [] trivial Tryz.func271 (.t (.loop [.s 12,.par 4 [3] 3 y3] (.t (.t (.two (.at [.par 4 [3] 3 y3] .no) .no)))))
theorem qO: ∀n,FOk Tryz.prog 214 (jA n)
 | 0=>lX (f:=jA 0) (enters_of Tryz.func214 (by kernel_rfl) rfl) rfl (fun d=>rfl)
 | n+1=>by
  have a:=qO n;exact fk [(214,(jA n)),(271,px)] ⟨a,wG,trivial⟩ Tryz.func214 (.t (.two (.t (.t (.t (.t (.t (.t (.t (.t (.two (.t (.t (.t (.two (.t (.at [.box 10 [(.num .i64),(.num .i64),.boo]] .no)) (.two (.t (.at [.box 10 [(.num .i64),(.num .i64),.boo]] .no)) .no))))) .no))))))))) .no)) (tr:=[(299,246,Cb)])
theorem zh:FOk Tryz.prog 171 ri:=fk [(213,xa),(214,(jA gj)),(215,wm)] ⟨ES,(qO gj),AA,trivial⟩ Tryz.func171 (.t (.t (.t (.t (.two (.t (.loop [.s 6,.s 22] (.t (.t (.two (.at [.s 6] .no) .no))))) .no))))) (tr:=[(299,246,Cb)])
theorem uj:FOk Tryz.prog 216 pe:=fk [] trivial Tryz.func216 (.t (.t (.t (.t (.two (.t (.loop [.slot 10 (.own 3 y3),.slot 11 (.map ⟨3,3,.int,.int⟩),.s 13,.box 12 [(.num .i64),(.own 4 y4),(.own 65 y65)]] (.t (.two (.t (.two (.t (.loop [.slot 10 (.own 3 y3),.slot 11 (.map ⟨3,3,.int,.int⟩),.slot 14 (.own 3 y3),.s 15] (.t (.join [.slot 10 (.own 3 y3),.slot 11 (.map ⟨3,3,.int,.int⟩),.slot 14 (.own 3 y3)] (.t (.t (.t (.join [.slot 10 (.own 3 y3),.slot 11 (.map ⟨3,3,.int,.int⟩),.s 18] .no .no)))) .no)))) .no)) .no)))) .no)))))
theorem vx:FOk Tryz.prog 217 oX:=fk [] trivial Tryz.func217 .no
theorem xW:FOk Tryz.prog 219 qH:=fk [] trivial Tryz.func219 (.t (.t (.join [.s 7] .no (.two (.t (.loop [.s 7,.s 21] (.t (.t (.join [.s 7] .no .no))))) (.t (.two (.t (.loop [.s 10,.s 39] (.t (.t (.join [.s 10] .no .no))))) .no))))))
theorem AB:FOk Tryz.prog 218 sD:=fk [(219,qH)] ⟨xW,trivial⟩ Tryz.func218 .no
theorem DH:FOk Tryz.prog 172 vf:=fk [(216,pe),(217,oX),(218,sD)] ⟨uj,vx,AB,trivial⟩ Tryz.func172 .no
theorem pP:FOk Tryz.prog 341 bY:=I5 (f:=bY) (lX (f:=⟨bY.ps,bY.rs,bY.m,none⟩) (enters_of Tryz.func341 (by kernel_rfl) rfl) rfl (fun d=>rfl)) (ML (V:=⟨tt,[],[(5,.raw)],8,[]⟩) Ot trivial mixed Tryz.func341 rfl rfl (enters_of Tryz.func341 (by kernel_rfl) rfl) (bB rfl) .no (fun E a b=>by cases a <;> kernel_rfl))
theorem zi:FOk Tryz.prog 315 rj:=fk [(341,bY)] ⟨pP,trivial⟩ Tryz.func315 (.t (.t (.two (.t (.loop [.slot 4 .boo,.row 3 4 y4] (.t (.t (.t (.loop [.slot 4 .boo,.s 16,.row 3 4 y4] (.t (.t (.two (.t (.t (.loop [.slot 4 .boo,.s 23,.row 3 4 y4] (.t (.t (.two (.at [.slot 4 .boo,.row 3 4 y4] .no) .no)))))) .no))))))))) .no)))
theorem mS:FOk Tryz.prog 342 gi:=fk [] trivial Tryz.func342 (.t (.two (.t (.loop [.s 8] .no)) .no))
theorem uv:FOk Tryz.prog 343 nM:=fk [(77,df)] ⟨eu,trivial⟩ Tryz.func343 .no
theorem wH:FOk Tryz.prog 316 py:=fk [(342,gi),(343,nM)] ⟨mS,uv,trivial⟩ Tryz.func316 (.t (.t (.t (.two (.t (.loop [.slot 6 (.own 65 y65),.slot 7 (.own 3 y3),.s 18] (.t (.t (.join [.slot 6 (.own 65 y65),.slot 7 (.own 3 y3)] (.t (.t (.t (.two (.t (.loop [.s 36,.box 10 [(.own 3 y3)]] (.t (.t (.two (.t (.join [.s 12] .no .no)) .no))))) (.t (.join [.slot 6 (.own 65 y65),.s 13,.gone 10] .no .no)))))) .no))))) .no))))
theorem vy:FOk Tryz.prog 274 oY:=fk [(315,rj),(316,py)] ⟨zi,wH,trivial⟩ Tryz.func274 (.t (.t (.two (.t (.loop [.slot 3 (.own 3 y3),.s 13] (.t (.t (.join [.slot 3 (.own 3 y3)] .no .no))))) (.t (.loop [.slot 3 (.own 3 y3),.s 6] .no)))))
theorem xX:FOk Tryz.prog 324 qI:=fk [] trivial Tryz.func324 .no
theorem xY:FOk Tryz.prog 325 qJ:=fk [] trivial Tryz.func325 .no
theorem AC:FOk Tryz.prog 297 sE:=fk [(324,qI),(325,qJ)] ⟨xX,xY,trivial⟩ Tryz.func297 .no
theorem kS:FOk Tryz.prog 253 fY:=fk [(297,sE)] ⟨AC,trivial⟩ Tryz.func253 (.t (.t (.t (.t (.t (.t (.two (.loop [.s 8,.row 7 3 (.int .i64)] .no) .no))))))) (an:=[(44,.bool)])
theorem K7:FOk Tryz.prog 275 Di:=fk [(253,fY)] ⟨kS,trivial⟩ Tryz.func275 .no
theorem qU:FOk Tryz.prog 277 lC:=fk [] trivial Tryz.func277 (.t (.two (.t (.loop [.s 8] .no)) .no))
theorem sP:FOk Tryz.prog 276 mJ:=fk [(277,lC)] ⟨qU,trivial⟩ Tryz.func276 .no
theorem sQ:FOk Tryz.prog 278 mK:=fk [] trivial Tryz.func278 .no
theorem nB:FOk Tryz.prog 256 j3:=fk [(299,vd)] ⟨Bo,trivial⟩ Tryz.func256 .no
theorem sR:FOk Tryz.prog 279 mL:=fk [(256,j3)] ⟨nB,trivial⟩ Tryz.func279 .no
theorem uw:FOk Tryz.prog 220 nO:=fk [(216,pe),(274,oY),(275,Di),(276,mJ),(278,mK),(279,mL)] ⟨uj,vy,K7,sP,sQ,sR,trivial⟩ Tryz.func220 .no
theorem RH:FOk Tryz.prog 173 Je:=fk [(220,nO)] ⟨uw,trivial⟩ Tryz.func173 .no
theorem DI:FOk Tryz.prog 128 vh:=fk [(171,ri),(172,vf),(173,Je)] ⟨zh,DH,RH,trivial⟩ Tryz.func128 .no
theorem jL:FOk Tryz.prog 129 ep:=fk [] trivial Tryz.func129 (.t (.two (.t (.loop [.s 8] .no)) .no))
theorem Jn:FOk Tryz.prog 130 Bg:=fk [(64,od)] ⟨sO,trivial⟩ Tryz.func130 .no
theorem OK:FOk Tryz.prog 78 FJ:=fk [(37,gE),(97,vc),(128,vh),(129,ep),(130,Bg)] ⟨jb,Bn,DI,jL,Jn,trivial⟩ Tryz.func78 (.t (.t (.two (.t (.loop [.s 13,.box 4 [(.own 113 jD),(.own 46 y46)]] (.t (.t (.two (.t (.t (.t (.t (.join [.s 9,.box 4 [(.own 113 jD),(.own 46 y46)],.gone 7] .no .no))))) .no))))) .no)))
theorem mA:FOk Tryz.prog 35 jB:=fk [(27,mz),(78,FJ)] ⟨qN,OK,trivial⟩ Tryz.func35 .no
theorem oh:FOk Tryz.prog 36 lA:=fk [(34,gT)] ⟨j8,trivial⟩ Tryz.func36 .no
theorem jc:FOk Tryz.prog 79 dO:=fk [] trivial Tryz.func79 (.t (.two (.t (.loop [.s 8] .no)) .no))
theorem DJ:FOk Tryz.prog 80 vi:=fk [] trivial Tryz.func80 .no
theorem tK:FOk Tryz.prog 38 pL:=fk [(79,dO),(80,vi)] ⟨jc,DJ,trivial⟩ Tryz.func38 .no
theorem lB:FOk Tryz.prog 13 iY:=fk [(20,xN),(34,gT),(35,jB),(36,lA),(37,gE),(38,pL)] ⟨DF,j8,mA,oh,jb,tK,trivial⟩ Tryz.func13 (.t (.t (.t (.two (.t (.loop [.s 37] .no)) .no))))
theorem vz:FOk Tryz.prog 144 rk:=fk [] trivial Tryz.func144 .no
theorem zj:FOk Tryz.prog 95 tI:=fk [(144,rk)] ⟨vz,trivial⟩ Tryz.func95 .no
theorem vA:FOk Tryz.prog 45 qK:=fk [(95,tI)] ⟨zj,trivial⟩ Tryz.func45 (.t (.t (.two (.t (.loop [.s 12,.box 3 [(.num .i64),(.own 80 y80)]] .no)) .no)))
theorem sS:FOk Tryz.prog 96 oe:=fk [(144,rk)] ⟨vz,trivial⟩ Tryz.func96 (.t (.t (.two (.t (.loop [.s 16,.box 3 [(.num .i64),(.own 4 y4),(.own 65 y65)]] .no)) .no)))
theorem BM:FOk Tryz.prog 46 ua:=fk [(96,oe),(97,vc)] ⟨sS,Bn,trivial⟩ Tryz.func46 (.t (.t (.two (.t (.loop [.s 12,.box 3 [(.own 113 jD),(.own 46 y46)]] .no)) (.two (.t (.loop [.s 27,.box 3 [(.own 113 jD),(.own 46 y46)]] .no)) .no))))
theorem xl:FOk Tryz.prog 18 rT:=fk [(45,qK),(46,ua)] ⟨vA,BM,trivial⟩ Tryz.func18 .no
theorem DK:FOk Tryz.prog 47 xO:=fk [(34,gT),(36,lA),(37,gE),(95,tI)] ⟨j8,oh,jb,zj,trivial⟩ Tryz.func47 .no
theorem zk:FOk Tryz.prog 19 rl:=fk [(45,qK),(47,xO)] ⟨vA,DK,trivial⟩ Tryz.func19 .no (an:=[(26,.bool)])
theorem AD:FOk Tryz.prog 6 sF:=fk [(13,iY),(18,rT),(19,rl),(20,xN),(21,pd)] ⟨lB,xl,zk,DF,uh,trivial⟩ Tryz.func6 (.t (.t (.t (.t (.t (.t (.t (.t (.two (.t (.loop [.s 42,.row 10 72 (.bag y72),.box 6 [(.num .i64),(.own 80 y80),(.own 113 jD),(.own 46 y46),(.own 55 y55),.str]] (.t (.t (.two (.at [.row 10 72 (.bag y72),.box 6 [(.num .i64),(.own 80 y80),(.own 113 jD),(.own 46 y46),(.own 55 y55),.str]] .no) .no))))) .no)))))))))
theorem gX:FOk Tryz.prog 61 dt:=fk [] trivial Tryz.func61 (.t (.t (.two (.t (.loop [.s 17] .no)) .no)))
theorem pQ:FOk Tryz.prog 115 j4:=fk [] trivial Tryz.func115 (.t (.t (.two (.t (.loop [.s 13] .no)) .no)))
theorem DL:FOk Tryz.prog 62 vj:=fk [(77,df),(115,j4)] ⟨eu,pQ,trivial⟩ Tryz.func62 .no
theorem zm:FOk Tryz.prog 26 rp:=fk [(61,dt),(62,vj)] ⟨gX,DL,trivial⟩ Tryz.func26 .no
theorem ke:FOk Tryz.prog 28 eN:=fk [] trivial Tryz.func28 (.t (.t (.two (.t (.loop [.s 13] .no)) .no)))
theorem BN:FOk Tryz.prog 8 ub:=fk [(26,rp),(27,mz),(28,eN)] ⟨zm,qN,ke,trivial⟩ Tryz.func8 .no
theorem zn:FOk Tryz.prog 67 rq:=fk [(35,jB),(38,pL),(96,oe)] ⟨mA,tK,sS,trivial⟩ Tryz.func67 .no
theorem wI:FOk Tryz.prog 162 pz:=fk [(37,gE)] ⟨jb,trivial⟩ Tryz.func162 (.t (.t (.t (.two (.t (.loop [.s 32] (.t (.t (.two (.t (.two (.t (.loop [.s 38] .no)) .no)) .no))))) .no))))
theorem FP:FOk Tryz.prog 121 Av:=fk [(37,gE),(68,mi),(162,pz)] ⟨jb,pj,wI,trivial⟩ Tryz.func121 (.t (.two (.t (.loop [.s 11] .no)) .no))
theorem OL:FOk Tryz.prog 200 FK:=fk [(253,fY)] ⟨kS,trivial⟩ Tryz.func200 (.t (.t (.t (.two (.t (.loop [.slot 6 (.own 3 (.int .i64)),.s 18,.row 5 3 y3] .no)) (.two (.loop [.slot 6 (.own 3 (.int .i64)),.row 5 3 y3] (.t (.two (.t (.loop [.slot 6 (.own 3 y3),.s 42,.row 5 3 y3] (.t (.t (.two (.at [.slot 6 (.own 3 y3),.row 5 3 y3] .no) .no))))) .no))) .no))))) (an:=[(34,.bool)])
theorem xZ:FOk Tryz.prog 202 tJ:=fk [] trivial Tryz.func202 (.t (.t (.two (.t (.loop [.slot 3 (.own 3 y3),.s 4] (.t (.join [.slot 3 (.own 3 y3)] .no .no)))) .no)))
theorem RI:FOk Tryz.prog 298 Jf:=fk [] trivial Tryz.func298 .no
theorem VG:FOk Tryz.prog 254 MW:=fk [(298,Jf)] ⟨RI,trivial⟩ Tryz.func254 (.t (.t (.two (.t (.loop [.s 13,.row 3 281 aeb] .no)) .no)))
theorem DM:FOk Tryz.prog 203 xP:=fk [(256,j3)] ⟨nB,trivial⟩ Tryz.func203 (.t (.t (.two (.t (.loop [.s 7,.s 8] .no)) .no)))
theorem RJ:FOk Tryz.prog 255 Jg:=fk [(202,tJ),(203,xP),(256,j3)] ⟨xZ,DM,nB,trivial⟩ Tryz.func255 (.t (.t (.two (.t (.loop [.s 9,.s 18] (.t (.t (.two (.t (.t (.loop [.s 9,.s 28] (.t (.t (.join [.s 9] .no .no)))))) .no))))) .no)))
theorem BO:FOk Tryz.prog 201 uc:=fk [(202,tJ),(254,MW),(255,Jg)] ⟨xZ,VG,RJ,trivial⟩ Tryz.func201 (.t (.t (.t (.two (.t (.loop [.s 26,.row 6 65 y65] (.t (.t (.two (.t (.t (.loop [.s 9,.row 6 65 y65] (.t (.two (.t (.loop [.s 38,.row 6 65 y65] (.t (.t (.two (.t (.t (.loop [.s 55,.row 6 65 y65] .no))) .no))))) .no))))) .no))))) .no))))
theorem AE:FOk Tryz.prog 163 sG:=afD (V:=⟨tt,[(121,Av),(200,FK),(201,uc)],[(1000000,.raw)],26,[]⟩) Ot ⟨FP,OL,BO,trivial⟩ mixed Tryz.func163 rfl rfl (enters_of Tryz.func163 (by kernel_rfl) rfl) ⟨rfl,rfl⟩ (bB rfl) rfl .no (fun d=>by kernel_rfl)
theorem Hj:FOk Tryz.prog 164 yY:=fk [(202,tJ),(203,xP)] ⟨xZ,DM,trivial⟩ Tryz.func164 (.t (.two (.t (.loop [.s 14] (.t (.t (.two (.t (.t (.loop [.s 24] .no))) .no))))) .no))
theorem rU:FOk Tryz.prog 204 lU:=Rw KQ (enters_of Tryz.func204 (by kernel_rfl) rfl) 3
theorem pR:FOk Tryz.prog 205 j5:=fk [] trivial Tryz.func205 (.t (.t (.two (.t (.loop [.s 3] (.t (.two (.t (.two (.t (.two (.t (.loop [.s 3,.s 5,.row 0 3 y3] (.t (.two (.at [.s 3,.row 0 3 y3] .no) .no)))) .no)) .no)) .no)))) .no))) (an:=[(28,.raw),(56,.raw),(59,.raw)])
theorem Hk:FOk Tryz.prog 165 yZ:=fk [(144,rk),(204,lU),(205,j5)] ⟨vz,rU,pR,trivial⟩ Tryz.func165 .no
theorem DN:FOk Tryz.prog 122 vk:=fk [(163,sG),(164,yY),(165,yZ)] ⟨AE,Hj,Hk,trivial⟩ Tryz.func122 (.t (.t (.t (.two (.t (.loop [.slot 7 (.own 3 y3),.s 20] (.t (.t (.two (.at [.slot 7 (.own 3 y3)] .no) .no))))) .no))))
theorem ET:FOk Tryz.prog 69 xb:=fk [(121,Av),(122,vk)] ⟨FP,DN,trivial⟩ Tryz.func69 (.t (.t (.t (.two (.t (.loop [.slot 5 (.own 83 y83),.s 17] (.t (.t (.two (.t (.t (.loop [.slot 5 (.own 83 y83),.s 25] .no))) .no))))) .no))))
theorem uk:FOk Tryz.prog 29 pf:=fk [(67,rq),(68,mi),(69,xb)] ⟨zn,pj,ET,trivial⟩ Tryz.func29 .no
theorem Hl:FOk Tryz.prog 30 y6:=Vq rfl rfl (fok (f:=⟨[.rd (.prod (.prod (.int .i64) (.sl 80 (.prod .raw .raw))) (.prod y30 (.prod y31 y9)))],[.prod .raw .raw],fun e=>(aO e.1.2 (i64.wrap ((e.1.2.length:Int) - 1))).bind fun a=>some (a.1,a.2),none⟩) (V:=⟨tt,[],[],13,[]⟩) Ot trivial mixed Tryz.func30 rfl rfl (enters_of Tryz.func30 (by kernel_rfl) rfl) rfl (bB rfl) rfl .no (fun d=>by kernel_rfl))
theorem AF:FOk Tryz.prog 9 sH:=fk [(13,iY),(29,pf),(30,y6)] ⟨lB,uk,Hl,trivial⟩ Tryz.func9 .no
theorem AG:FOk Tryz.prog 10 sI:=fk [(24,eL),(31,pc)] ⟨fJ,ug,trivial⟩ Tryz.func10 .no
theorem EU:FOk Tryz.prog 11 xc:=fk [] trivial Tryz.func11 (.t (.t (.two (.t (.loop [.s 5] .no)) .no)))
theorem jd:FOk Tryz.prog 73 dP:=fk [] trivial Tryz.func73 (.t (.two (.t (.loop [.s 8] .no)) .no))
theorem BP:FOk Tryz.prog 74 ud:=fk [] trivial Tryz.func74 .no
theorem EW:FOk Tryz.prog 32 xd:=fk [(73,dP),(74,ud)] ⟨jd,BP,trivial⟩ Tryz.func32 .no
theorem K8:FOk Tryz.prog 75 Dj:=fk [(34,gT),(35,jB),(36,lA),(38,pL)] ⟨j8,mA,oh,tK,trivial⟩ Tryz.func75 .no
theorem Hm:FOk Tryz.prog 126 y7:=fk [(29,pf),(47,xO)] ⟨uk,DK,trivial⟩ Tryz.func126 .no
theorem nH:FOk Tryz.prog 262 ix:=fk [] trivial Tryz.func262 (.t (.two (.t (.loop [.s 8] .no)) .no))
theorem nC:FOk Tryz.prog 209 gU:=fk [(262,ix)] ⟨nH,trivial⟩ Tryz.func209 (.t (.t (.t (.two (.t (.loop [.s 5,.s 6,.row 0 83 y83] (.t (.two (.at [.s 5,.row 0 83 y83] .no) .no)))) .no)))) (an:=[(38,.raw),(41,.raw)])
theorem nI (a b:Int) (W:World):Calls Tryz.prog 311 #[.int .i64 a,.int .i64 b] W fun e c=>e= .returned (.int .i64 (cmpI a b))/\c=W:=by
 unfold cmpI;by_cases h:a<b
 ·go_enter Tryz.func311,Tryz.ntmps311
  go_wp2
  go_ret
  simp[h]
 ·by_cases k:b<a
  ·go_enter Tryz.func311,Tryz.ntmps311
   go_wp2
   go_ret
   simp[h,k]
  ·go_enter Tryz.func311,Tryz.ntmps311
   go_wp2
   go_ret
   simp[h,k]
theorem nJ (x y:Int×Int) (W:World):Calls Tryz.prog 264 #[.agg #[.int .i64 x.1,.int .i64 x.2],.agg #[.int .i64 y.1,.int .i64 y.2]] W fun e b=>e= .returned (.int .i64 (Oq x y))/\ ∃q os',b=Go.Sort.grow (W.drewN q) os':=by
 unfold Oq;have a:=nI;generalize cmpI=c at a⊢;by_cases h:x.1=y.1
 ·rw[if_pos h]
  go_enter Tryz.func264,Tryz.ntmps264
  go_wp2_with (go_at_call 311;refine (a _ _ _).mono ?_;rintro e b ⟨rfl,rfl⟩)
  go_ret
  exact ⟨rfl,0,_,by rw[Go.Sort.alloc_eq_grow,Go.Sort.alloc_eq_grow,Go.Sort.grow_grow];rfl⟩
 ·rw[if_neg h]
  go_enter Tryz.func264,Tryz.ntmps264
  go_wp2_with (go_at_call 311;refine (a _ _ _).mono ?_;rintro e b ⟨rfl,rfl⟩)
  go_ret
  exact ⟨rfl,0,_,by rw[Go.Sort.alloc_eq_grow,Go.Sort.alloc_eq_grow,Go.Sort.grow_grow];rfl⟩
theorem oi:FOk Tryz.prog 263 iZ:=Rt Ez (by intro w;kernel_rfl) (by intro w;kernel_rfl) Vt Vu (enters_of Tryz.func264 (by kernel_rfl) rfl) (fun _ _ _ _ _ _ _ _ x y=>nJ x y _) (enters_of Tryz.func263 (by kernel_rfl) rfl) 83
theorem DO:FOk Tryz.prog 311 vl:=fk [] trivial Tryz.func311 .no
theorem BQ:FOk Tryz.prog 264 ue:=fk [(311,vl)] ⟨DO,trivial⟩ Tryz.func264 .no
theorem o0:FOk Tryz.prog 265 jk:=fk [] trivial Tryz.func265 (.t (.t (.two (.t (.loop [.s 3] (.t (.two (.t (.two (.t (.two (.t (.loop [.s 3,.s 5,.row 0 83 y83] (.t (.two (.at [.s 3,.row 0 83 y83] .no) .no)))) .no)) .no)) .no)))) .no))) (an:=[(28,.raw),(56,.raw),(59,.raw)])
theorem K9:FOk Tryz.prog 210 Dk:=fk [(263,iZ),(264,ue),(265,jk)] ⟨oi,BQ,o0,trivial⟩ Tryz.func210 .no
theorem pS:FOk Tryz.prog 266 j6:=fk [] trivial Tryz.func266 (.t (.two (.t (.loop [.s 8] .no)) .no))
theorem oj:FOk Tryz.prog 212 ja:=fk [(266,j6)] ⟨pS,trivial⟩ Tryz.func212 .no
theorem ya:FOk Tryz.prog 211 qL:=fk [(212,ja)] ⟨oj,trivial⟩ Tryz.func211 .no
theorem AH:FOk Tryz.prog 170 sJ:=fk [(209,gU),(210,Dk),(211,qL)] ⟨nC,K9,ya,trivial⟩ Tryz.func170 .no
theorem BR:FOk Tryz.prog 127 uf:=fk [(170,sJ)] ⟨AH,trivial⟩ Tryz.func127 .no
theorem La:FOk Tryz.prog 76 Dl:=fk [(126,y7),(127,uf)] ⟨Hm,BR,trivial⟩ Tryz.func76 (.t (.t (.t (.two (.t (.at [.box 13 [(.num .i64),.boo,(.own 83 y83),(.own 83 y83)],.gone 11] .no)) .no))))
theorem DP:FOk Tryz.prog 33 vm:=fk [(75,Dj),(76,Dl)] ⟨K8,La,trivial⟩ Tryz.func33 .no
theorem EX:FOk Tryz.prog 12 xe:=fk [(13,iY),(18,rT),(32,xd),(33,vm)] ⟨lB,xl,EW,DP,trivial⟩ Tryz.func12 .no
theorem BS:FOk Tryz.prog 3 BE:=fk [(4,RB),(5,oV),(6,sF),(7,nY),(8,ub),(9,sH),(10,sI),(11,xc),(12,xe),(13,iY)] ⟨ZO,vr,AD,sL,BN,AF,AG,EU,EX,lB,trivial⟩ Tryz.func3 (.t (.t (.t (.t (.t (.t (.t (.two (.t (.loop [.s 9] .no)) (.two (.t (.loop [.s 14] .no)) .no))))))))) (tr:=[(3,0,.raw),(4,0,.raw),(5,0,.raw),(46,0,.raw),(55,0,.raw),(65,0,.raw),(80,0,.raw),(83,0,.raw),(113,0,.raw),(151,0,.raw),(202,0,.raw)])
end R
namespace D
open Go.RowKit
theorem BT (d:List Int) (r:Bool) (f:me d=some r) {I:Hp} {w0:World} (a:Value) (b:(aA 5 rU8).rd I [a] d) (k:Lay Tryz.prog I):Con Tryz.prog 3 #[a] I w0 [] (fun v=>v= .bool r) (fun _=>[]):=fun w C j =>
 ((R.BS).con rfl w0 I undef [a] (d,()) r k ⟨_,_,rfl,⟨[a],rfl,b⟩,rfl⟩ f w C j).mono fun e i ⟨v,h,_,c⟩=>by
  obtain ⟨h1,g⟩:=R.yt (h1:=fun _=>rfl) (show St I w0 i (Ch.own R.Ty.bool.rep [v] r::C) from c);exact ⟨v,h,(List.cons.inj h1).1,g⟩
def I64 (n:Int):Prop:= -9223372036854775808<=n/\n<=9223372036854775807
class Data (α:Type) where
 lim:α->Prop
 sm:α->Prop
instance:Data Int:=⟨I64,fun _=>True⟩
instance:Data Bool:=⟨fun _=>True,fun _=>True⟩
instance:Data ByteArray:=⟨fun s=>s.size<=9223372036854775807,fun s=>s.size<=1048576⟩
instance {α β:Type} [Data α] [Data β] :Data (α×β):=⟨fun x=>Data.lim x.1/\Data.lim x.2,fun x=>Data.sm x.1/\Data.sm x.2⟩
instance {α:Type} [Data α] :Data (List α):=⟨fun xs=>xs.length<=9223372036854775807/\ ∀x,x∈xs->Data.lim x,fun xs=>xs.length<=1048576/\ ∀x,x∈xs->Data.sm x⟩
structure Opens (P:Program) (t:TypeId) {α:Type} [Data α] (R:Rep α):Prop where
 out: ∀ {H:Type} (enc:TypeId×Value->H) (w:World) (fuel:Nat) (cs:List Value) (x:DataW H×List MemPlace),DataW.trod enc P w 0 (fun _=>true) true fuel t cs=some x-> ∃a:α,R.rd (hp w) cs a/\Data.lim a
theorem VH {P:Program} {t:TypeId} (h:P.underlying t=some (.int .u8)):Opens P t rU8:=by
 constructor;intro H a w fuel d x b;obtain ⟨n,rfl,-,c⟩:=DataW.trod_int h b;refine ⟨n,rfl,show I64 n from ?_⟩;simp[Lit.wf,IntKind.min,IntKind.max,IntKind.signed,IntKind.bits] at c;unfold I64;omega
theorem Lb {P:Program} {t e:TypeId} {α:Type} [Data α] {R:Rep α} {E:TypeId} (h:P.underlying t=some (.slice e)) (hc:P.cellsOf e=R.size) (h0:0<R.size) (I:Opens P e R):Opens P t (aA E R):=by
 constructor;intro H J w fuel cs x z;rcases Go.Deep.open_slice h z with ⟨rfl,-⟩ | ⟨a,len,cap,m,n,D,Pl,rfl,-,hl,O,K,-,C⟩
 ·exact ⟨[],⟨none,0,rfl,by simp,.inl rfl⟩,Nat.zero_le _,fun x z=>by cases z⟩
 have L:m=cap:=by simpa using K
 subst L;rw[hc] at C;by_cases Y:len=0
 ·subst Y;exact ⟨[],⟨some a,m,rfl,by simp,.inl rfl⟩,Nat.zero_le _,fun x z=>by cases z⟩
 ·have o: ∀i,i<len-> ∃c:List Value,∃y:α,c.length=R.size/\(∀j,j<R.size->w.cell? ((a.add (i*R.size)).add j)=c[j]?)/\R.rd (hp w) c y/\Data.lim y:=by
   intro i k;obtain ⟨c,B,u⟩:=C i (by omega);obtain ⟨-,M,Z⟩:=World.cells?_some B;obtain ⟨y,q⟩:=I.out J w _ _ _ u;exact ⟨c,y,M,Z,q⟩
  obtain ⟨c0,y0,U,N,-⟩:=o 0 (by omega);have d:=N 0 h0;have r: ∃v,c0[0]? =some v:=⟨_,List.getElem?_eq_getElem (by omega)⟩;obtain ⟨v,hv⟩:=r;rw[hv] at d;have W:(a.add (0*R.size)).add 0=a:=by simp[Addr.add]
  rw[W] at d;obtain ⟨b,off,spot⟩:=a;have V: ∃f T F,w.heap[b]? =some (.cells f T F)/\spot=none:=by
   simp only[World.cell?] at d;split at d
   ·rename_i f T F G;cases spot with
    | none=>exact ⟨f,T,F,G,rfl⟩
    | some s=>simp at d
   ·simp at d
  obtain ⟨f,T,F,Q,rfl⟩:=V;have A: ∀i j,(Addr.add ⟨b,off,none⟩ i).add j=⟨b,off+i+j,none⟩:=by
   intro i j;by_cases B:i=0 <;> by_cases u:j=0 <;> simp[Addr.add,B,u,Nat.add_assoc]
  haveI:Inhabited α:=⟨y0⟩
  obtain ⟨X,S⟩:=Go.Deep.choose_lt (α:=α) (n:=len) (p:=fun i y=> ∃c:List Value,c.length=R.size/\(∀j,j<R.size->f.toList[off+i*R.size+j]? =c[j]?)/\R.rd (hp w) c y/\Data.lim y) (fun i k=>by
   obtain ⟨c,y,B,u,M⟩:=o i k;refine ⟨y,c,B,fun j hj=>?_,M⟩
   have:=u j hj
   rw[A] at this;simp only[World.cell?,Q] at this;simpa using this)
  have g:((List.range len).map X).length=len:=by simp
  have l: ∀i y,((List.range len).map X)[i]? =some y->i<len/\y=X i:=fun i y q=>by
   have k:i<len:=by have:=(List.getElem?_eq_some_iff.1 q).1;omega
   exact ⟨k,by simpa [k] using q.symm⟩
  refine ⟨(List.range len).map X,⟨some ⟨b,off,none⟩,m,by rw[g],by rw[g];unfold maxLen at O;unfold lim;omega,.inr ⟨b,off,f,T,F,rfl,Q,fun i y q=>?_⟩⟩,by rw[g];unfold maxLen at O;omega,fun y q=>?_⟩
  ·obtain ⟨k,rfl⟩:=l i y q;obtain ⟨c,e1,e2,e3,-⟩:=S i k;exact ⟨c,e1,e2,e3⟩
  ·obtain ⟨i,k,I⟩:=List.mem_iff_getElem?.1 q |>.imp fun i k=>l i y k;obtain ⟨-,-,-,-,e4⟩:=S i k;rw[I];exact e4
theorem St.below {w0 w:World} {cs:List Ch} (h:St (hp w0) w0 w cs):Below w0.heap.size w0 w:=by
 obtain ⟨⟨c,f,d,g⟩,a,-⟩:=h;refine ⟨c,f,d,g,fun b i=>?_⟩;have e:w0.heap[b]? =some w0.heap[b]:=Array.getElem?_eq_getElem i;rw[e];exact a b _ e
theorem bd {n:Int} (h1: -9223372036854775808<=n) (a:n<=9223372036854775807):i64.wrap n=n:=by
 simp only[IntKind.wrap,IntKind.bits,IntKind.signed,Bool.true_and];split <;> rename_i h <;> simp at h <;> omega
theorem ae {i:Nat} (h:i<9223372036854775807):i64.wrap ((i:Int)+1)=((i+1:Nat):Int):=by
 rw[bd (by omega) (by omega)];rfl
theorem aC {α:Type} {xs:List α} {i:Nat} (h:i<xs.length):aO xs (i:Int)=some (xs[i]):=by
 unfold aO;rw[if_pos (Int.natCast_nonneg _)];simp[h]
theorem bu {i n:Nat} (h:i<n):decide ((i:Int)<(n:Int))=true:=by simp[h]
theorem bE {n:Nat} :decide ((n:Int)<(n:Int))=false:=by simp
theorem cX (k:Nat) (h:k<=9223372036854775807):k<aR:=by unfold aR;omega
theorem ab6 {α:Type} {b n:Nat} {z:α} (h:n*b<=140737488355328):mkI b (n:Int) z=some (List.replicate n z):=by
 unfold mkI;rw[if_pos ⟨Int.natCast_nonneg _,by simpa using h⟩];simp
theorem Jo {R S:Type} {f:S->Option (Out R S)} (inv:Nat->S) (N:Nat) (h: ∀i,i<N->f (inv i)=some (.nxt (inv (i+1)))): ∀(m i k:Nat),i+m=N->ah f (k+m) (inv i)=ah f k (inv N)
 | 0,i,k,e=>by rw[show i=N by omega];rfl
 | m+1,i,k,e=>by
  rw[<-Nat.add_assoc,ah,h i (by omega)];exact Jo inv N h m (i+1) k (by omega)
theorem RK {R S:Type} {f:S->Option (Out R S)} (inv:Nat->S) (N:Nat) {s:S} (h: ∀i,i<N->f (inv i)=some (.nxt (inv (i+1)))) (a:f (inv N)=some (.brk s)) (b:N<aR):ah f aR (inv 0)=some (.brk s):=by
 have e:aR=(aR - N - 1)+1+N:=by omega
 rw[e,Jo inv N h N 0 _ (by omega),ah,a]
theorem afe {α:Type} [Data α] {f:Int×Int->Option MT } (xs:List α)
  (a: ∀i (h:i<xs.length) l,0<=l->l<=1048576-> ∃r,f (l,(i:Int))=some (if r<0 then .ret (-1) else .nxt (r,((i+1:Nat):Int)))/\(r<0\/(0<=r/\r<=l/\Data.sm xs[i])))
  (b: ∀l,f (l,(xs.length:Int))=some (.brk (l,(xs.length:Int)))): ∀(m i k:Nat) (l:Int),i+m=xs.length->m<k->0<=l->l<=1048576->
   ah f k (l,(i:Int))=some (.ret (-1))\/ ∃r,ah f k (l,(i:Int))=some (.brk (r,(xs.length:Int)))/\0<=r/\r<=l/\ ∀j (h:j<xs.length),i<=j->Data.sm xs[j]
 | 0,i,k,l,e,hk,h0,h1=>by
  obtain ⟨k,rfl⟩: ∃q,k=q+1:=⟨k - 1,by omega⟩;obtain rfl:i=xs.length:=by omega
  exact .inr ⟨l,by rw[ah,b],h0,Int.le_refl _,fun j g u=>by omega⟩
 | m+1,i,k,l,e,hk,h0,h1=>by
  obtain ⟨k,rfl⟩: ∃q,k=q+1:=⟨k - 1,by omega⟩;obtain ⟨r,p,c⟩:=a i (by omega) l h0 h1;rw[ah,p];rcases c with c | ⟨c,w,s⟩
  ·rw[if_pos c];exact .inl rfl
  ·rw[if_neg (by omega)];rcases afe xs a b m (i+1) k r (by omega) (by omega) c (by omega) with h | ⟨q,n,o,v,t⟩
   ·exact .inl h
   ·refine .inr ⟨q,n,o,by omega,fun j g u=>?_⟩;by_cases d:j=i
    ·subst d;exact s
    ·exact t j g (by omega)
theorem szL {α:Type} [Data α] {f:Int×Int->Option MT } (xs:List α) {l:Int} (c:xs.length<=9223372036854775807)
  (a: ∀i (h:i<xs.length) l,0<=l->l<=1048576-> ∃r,f (l,(i:Int))=some (if r<0 then .ret (-1) else .nxt (r,((i+1:Nat):Int)))/\(r<0\/(0<=r/\r<=l/\Data.sm xs[i])))
  (b: ∀l,f (l,(xs.length:Int))=some (.brk (l,(xs.length:Int)))) (p:0<=l) (h1:l<=1048576) :
  ∃r,(if decide (i64.wrap (l - (xs.length:Int))<0) then (some (-1)) else (aM (ah f aR (i64.wrap (l - (xs.length:Int)),0)) (fun r=>some r) (fun m=>some m.1)))=some r/\(r<0\/(0<=r/\r<=l/\Data.sm xs)):=by
 rw[bd (by omega) (by omega)];by_cases h:l - (xs.length:Int)<0
 ·exact ⟨-1,by rw[if_pos (decide_eq_true h)],.inl (by decide)⟩
 ·rw[if_neg (by simpa using h)];rcases afe xs a b xs.length 0 aR (l - xs.length) (by omega) (cX _ c) (by omega) (by omega) with e | ⟨r,e,d,o,k⟩
  ·exact ⟨-1,by rw[show ((0:Int))=((0:Nat):Int) from rfl,e];rfl,.inl (by decide)⟩
  ·refine ⟨r,by rw[show ((0:Int))=((0:Nat):Int) from rfl,e];rfl,.inr ⟨d,by omega,by omega,fun x g=>?_⟩⟩;obtain ⟨j,n,rfl⟩:=List.getElem_of_mem g;exact k j n (Nat.zero_le _)
theorem aee {α:Type} [DecidableEq α] {f:Int->Option (Out Bool Int)} (xs ys:List α) (g:xs.length=ys.length)
  (a: ∀i (h:i<xs.length) (n:i<ys.length),f (i:Int)=some (if xs[i] =ys[i] then .nxt ((i+1:Nat):Int) else .ret false)) (b:f (xs.length:Int)=some (.brk (xs.length:Int))): ∀(m i k:Nat),i+m=xs.length->m<k->
   ah f k (i:Int)=some (if xs.drop i=ys.drop i then .brk (xs.length:Int) else .ret false)
 | 0,i,k,e,hk=>by
  obtain ⟨k,rfl⟩: ∃q,k=q+1:=⟨k - 1,by omega⟩;obtain rfl:i=xs.length:=by omega
  rw[ah,b,List.drop_of_length_le (ay _),List.drop_of_length_le (by omega),if_pos rfl]
 | m+1,i,k,e,hk=>by
  obtain ⟨k,rfl⟩: ∃q,k=q+1:=⟨k - 1,by omega⟩;have d:i<xs.length:=by omega
  have c:i<ys.length:=by omega
  have j:=List.drop_eq_getElem_cons d;have l:=List.drop_eq_getElem_cons c;rw[ah,a i d c,j,l];by_cases h:xs[i] =ys[i]
  ·rw[if_pos h];simp only;rw[aee xs ys g a b m (i+1) k (by omega) (by omega)];simp only[List.cons.injEq,h,true_and]
  ·rw[if_neg h];simp only[List.cons.injEq,h,false_and,if_false]
theorem eqL {α:Type} [DecidableEq α] {f:Int->Option (Out Bool Int)} (xs ys:List α) (d:xs.length<=9223372036854775807)
  (a: ∀i (h:i<xs.length) (g:i<ys.length),f (i:Int)=some (if xs[i] =ys[i] then .nxt ((i+1:Nat):Int) else .ret false)) (b:f (xs.length:Int)=some (.brk (xs.length:Int))) :
  (if (xs.length:Int) !=(ys.length:Int) then (some false) else (aM (ah f aR 0) (fun r=>some r) (fun j=>some true)))=some (decide (xs=ys)):=by
 by_cases c:xs.length=ys.length
 ·rw[if_neg (by rw[c];simp),show ((0:Int))=((0:Nat):Int) from rfl,aee xs ys c a b xs.length 0 aR (by omega) (cX _ d)];by_cases h:xs=ys
  ·subst h;simp[aM]
  ·simp[aM,h]
 ·have:xs≠ys:=fun e=>c (by rw[e])
  rw[if_pos (by simp;omega)];simp[this]
theorem RL {α:Type} {c d:Prop} [Decidable c] [Decidable d] {a b:α} (h:c↔d):(if c then some a else some b)=some (if d then a else b):=by
 by_cases k:c
 ·rw[if_pos k,if_pos (h.1 k)]
 ·rw[if_neg k,if_neg (fun e=>k (h.2 e))]
theorem eqB {α:Type} [DecidableEq α] {f:Int->Option (Out Bool Int)} {K:Option Bool} (xs ys:List α) (c:xs.length<=9223372036854775807) (d:xs.length=ys.length)
  (a: ∀i (h:i<xs.length) (e:i<ys.length),f (i:Int)=some (if xs[i] =ys[i] then .nxt ((i+1:Nat):Int) else .ret false)) (b:f (xs.length:Int)=some (.brk (xs.length:Int))) :
  aM (ah f aR 0) (fun r=>some r) (fun g=>K)=(if xs=ys then K else some false):=by
 rw[show ((0:Int))=((0:Nat):Int) from rfl,aee xs ys d a b xs.length 0 aR (by omega) (cX _ c)];by_cases h:xs=ys
 ·subst h;simp[aM]
 ·simp[aM,h]
theorem ab7 {f:Int->Option (Out Int Int)} (xs ys:List Int)
  (b: ∀i (h:i<xs.length) (u:i<ys.length),f (i:Int)=some (if xs[i] < ys[i] then .ret (-1) else if xs[i] > ys[i] then .ret 1 else .nxt ((i+1:Nat):Int))) (a: ∀i,xs.length<=i\/ys.length<=i->f (i:Int)=some (.brk (i:Int))): ∀(m i k:Nat),i+m=xs.length->m<k->
   (∃r,ah f k (i:Int)=some (.ret r)/\r≠0/\xs≠ys)\/ ∃s,ah f k (i:Int)=some (.brk s)/\(xs.length=ys.length->xs.drop i=ys.drop i)
 | 0,i,k,e,hk=>by
  obtain ⟨k,rfl⟩: ∃q,k=q+1:=⟨k - 1,by omega⟩;exact .inr ⟨_,by rw[ah,a i (.inl (by omega))],fun h=>by rw[List.drop_of_length_le (by omega),List.drop_of_length_le (by omega)]⟩
 | m+1,i,k,e,hk=>by
  obtain ⟨k,rfl⟩: ∃q,k=q+1:=⟨k - 1,by omega⟩;have l:i<xs.length:=by omega
  by_cases c:i<ys.length
  ·have d: ∀h:xs[i] ≠ys[i],xs≠ys:=fun h e=>h (by subst e;rfl);rw[ah,b i l c];by_cases j:xs[i] < ys[i]
   ·rw[if_pos j];exact .inl ⟨-1,rfl,by decide,d (by omega)⟩
   ·rw[if_neg j];by_cases g:xs[i] > ys[i]
    ·rw[if_pos g];exact .inl ⟨1,rfl,by decide,d (by omega)⟩
    ·rw[if_neg g];rcases ab7 xs ys b a m (i+1) k (by omega) (by omega) with h | ⟨s,n,o⟩
     ·exact .inl h
     ·refine .inr ⟨s,n,fun t=>?_⟩;have p:xs[i] =ys[i]:=by omega
      rw[List.drop_eq_getElem_cons l,List.drop_eq_getElem_cons c,o t,p]
  ·exact .inr ⟨_,by rw[ah,a i (.inr (by omega))],fun h=>by omega⟩
instance:LawfulBEq ByteArray where
 eq_of_beq {a b} h:=ByteArray.ext (eq_of_beq (show (a.data==b.data)=true from h))
 rfl {a}:=beq_self_eq_true a.data
theorem afF {α β γ:Type} {a b:α×β×γ} :(a.1=b.1/\a.2.1=b.2.1/\a.2.2=b.2.2)↔a=b:=by rw[Prod.ext_iff,Prod.ext_iff]
theorem afG {α β γ δ:Type} {a b:α×β×γ×δ} :(a.1=b.1/\a.2.1=b.2.1/\a.2.2.1=b.2.2.1/\a.2.2.2=b.2.2.2)↔a=b:=by rw[Prod.ext_iff,Prod.ext_iff,Prod.ext_iff]
theorem fx {α β:Type} (p:α×β):(p.1,p.2)=p:=rfl
theorem aP {α:Type} [Data α] {xs:List α} (h:Data.sm xs):xs.length<=1048576/\ ∀x,x∈xs->Data.sm x:=h
theorem bW {R S:Type} {f:S->Option (Out R S)} (Inv:Nat->S->Prop) (Q:Out R S->Prop) (N:Nat)
  (h: ∀i s,i<=N->Inv i s->(i<N/\ ∃a,f s=some (.nxt a)/\Inv (i+1) a)\/ ∃o,f s=some o/\(∀a,o≠ .nxt a)/\Q o) {s:S} (m:Inv 0 s) (p:N<aR): ∃o,ah f aR s=some o/\Q o:=by
 have key: ∀(k i:Nat) (s:S),i<=N->N<i+k->Inv i s-> ∃o,ah f k s=some o/\Q o:=by
  intro k;induction k with
  | zero=>intro i s d g;omega
  | succ k ih =>
   intro i s d g n;rcases h i s d n with ⟨q,a,e,b⟩ | ⟨o,e,j,c⟩
   ·obtain ⟨o,l,c⟩:=ih (i+1) a (by omega) (by omega) b;exact ⟨o,by rw[ah,e];exact l,c⟩
   ·refine ⟨o,?_,c⟩;rw[ah,e];cases o with
    | nxt a=>exact absurd rfl (j a)
    | brk a=>rfl
    | ret r=>rfl
 exact key aR 0 s (by omega) (by omega) m
theorem fb {R S:Type} {f:S->Option (Out R S)} (Inv:Nat->S->Prop) (N:Nat) (h: ∀i s,i<N->Inv i s-> ∃a,f s=some (.nxt a)/\Inv (i+1) a) (j: ∀s,Inv N s->f s=some (.brk s)) {s:S} (d:Inv 0 s) (g:N<aR): ∃a,ah f aR s=some (.brk a)/\Inv N a:=by
 obtain ⟨o,e,a,rfl,h⟩:=bW (f:=f) Inv (fun o=> ∃a,o= .brk a/\Inv N a) N (fun i s k b=>by
  by_cases c:i<N
  ·exact .inl ⟨c,h i s c b⟩
  ·obtain rfl:i=N:=by omega
   exact .inr ⟨_,j s b,(fun a e=>by cases e),s,rfl,b⟩) d g
 exact ⟨a,e,h⟩
theorem aQ {R S:Type} {f:S->Option (Out R S)} (a:Nat->S) (N:Nat) (h: ∀i,i<N->f (a i)=some (.nxt (a (i+1)))) (c:f (a N)=some (.brk (a N))) (b:N<aR):ah f aR (a 0)=some (.brk (a N)):=RK a N h c b
theorem mB {k:Nat} (h:k<=9223372036854775807):k<aR:=cX k h
theorem zo {i:Nat} (h:i<=9223372036854775807):i64.wrap (i:Int)=(i:Int):=bd (by omega) (by omega)
theorem fw {i:Nat} (h:i<=9223372036854775807):i64.wrap ((i:Int) - 1)=(i:Int) - 1:=bd (by omega) (by omega)
theorem al {α:Type} {b:Nat} {xs ys:List α} (h:(xs.length+ys.length)*b<=140737488355328):bC b xs ys=some (xs++ys):=by unfold bC;rw[if_pos h]
theorem ZP {i n:Nat} :decide ((i:Int)<(n:Int))=decide (i<n):=by simp
theorem aW {R S T:Type} {x:Option (Out R S)} {r:R} {a:R->Option T} {k:S->Option T} (h:x=some (.ret r)):aM x a k=a r:=by rw[h];rfl
theorem af {R S T:Type} {x:Option (Out R S)} {s:S} {a:R->Option T} {k:S->Option T} (h:x=some (.brk s)):aM x a k=k s:=by rw[h];rfl
def nth {α:Type} [Inhabited α] (xs:List α) (i:Int):α:=xs.getD i.toNat default
section
variable {α:Type} [Inhabited α] {xs ys:List α}
theorem ai {i:Int} (a:0<=i) (h1:i<xs.length):aO xs i=some (nth xs i):=by
 unfold aO nth;rw[if_pos a]
 have:i.toNat<xs.length:=by omega
 simp[List.getD_eq_getElem?_getD,this]
theorem bJ {i:Nat} (h:i<xs.length):nth xs (i:Int)=xs[i]:=by simp[nth,List.getD_eq_getElem?_getD,h]
theorem bG {i:Int} (a:0<=i) (h1:i<xs.length):nth xs i∈xs:=by
 have:i.toNat<xs.length:=by omega
 have e:nth xs i=xs[i.toNat]:=by simp[nth,List.getD_eq_getElem?_getD,this]
 rw[e];exact List.getElem_mem this
theorem dB {i:Int} (a:0<=i) (h1:i<xs.length):nth (xs++ys) i=nth xs i:=by
 have:i.toNat<xs.length:=by omega
 simp[nth,List.getD_eq_getElem?_getD,List.getElem?_append_left this]
theorem ZQ {β:Type} [Inhabited β] {f:α->β} {i:Int} (a:0<=i) (h1:i<xs.length):nth (xs.map f) i=f (nth xs i):=by
 have:i.toNat<xs.length:=by omega
 simp[nth,List.getD_eq_getElem?_getD,this]
theorem DQ {x:α} (h:x∈xs): ∃i:Nat,i<xs.length/\nth xs (i:Int)=x:=by
 obtain ⟨i,a,rfl⟩:=List.getElem_of_mem h;exact ⟨i,a,bJ a⟩
theorem ru {i:Int} {x:α} (a:0<=i) (h1:i<xs.length):nth (xs.set i.toNat x) i=x:=by
 have:i.toNat<xs.length:=by omega
 simp[nth,List.getD_eq_getElem?_getD,this]
theorem wo {i j:Int} {x:α} (a:0<=i) (b:0<=j) (h:i≠j):nth (xs.set i.toNat x) j=nth xs j:=by
 have:i.toNat≠j.toNat:=by omega
 simp[nth,List.getD_eq_getElem?_getD,List.getElem?_set_ne this]
theorem ZR (h:xs.length=ys.length) (k: ∀i:Nat,i<xs.length->nth xs (i:Int)=nth ys (i:Int)):xs=ys:=by
 refine List.ext_getElem h fun i a b=>?_
 have:=k i a
 rwa [bJ a,bJ b] at this
end
section
variable {κ:Type} [DecidableEq κ]
def nbL (l:List κ):Option κ->List κ
 | none=>l
 | some x=>if x∈l then l else l++ [x]
def nbI (l:List κ):Option κ->Int
 | none=> -1
 | some x=>(l.idxOf x:Int)
def nbS (l:List κ) (os:List (Option κ)):List κ:=os.foldl nbL l
def nbR (l:List κ):List (Option κ)->List Int
 | [] =>[]
 | o::os=>nbI l o::nbR (nbL l o) os
theorem zp (l:List κ) (os:List (Option κ)) (o:Option κ):nbS l (os++ [o])=nbL (nbS l os) o:=by simp[nbS]
theorem wq: ∀(l:List κ) (os:List (Option κ)) (o:Option κ),nbR l (os++ [o])=nbR l os++ [nbI (nbS l os) o]
 | l,[],o=>rfl
 | l,p::os,o=>by
  show nbI l p::nbR (nbL l p) (os++ [o])=nbI l p::nbR (nbL l p) os++ [nbI (nbS (nbL l p) os) o];rw[wq (nbL l p) os o];rfl
theorem jR: ∀(l:List κ) (os:List (Option κ)),(nbR l os).length=os.length
 | l,[] =>rfl
 | l,o::os=>by show (nbR (nbL l o) os).length+1=_;rw[jR];rfl
theorem OM (l : List κ) (o : Option κ) : l <+: nbL l o := by
  cases o with
  | none => exact List.prefix_refl l
  | some x => unfold nbL; simp only; split
              · exact List.prefix_refl l
              · exact List.prefix_append l [x]
theorem om: ∀(l:List κ) (os:List (Option κ)),l <+:nbS l os
 | l,[] =>List.prefix_refl l
 | l,o::os=>(OM l o).trans (om (nbL l o) os)
theorem RM {l : List κ} {o : Option κ} (h : l.Nodup) : (nbL l o).Nodup := by
  cases o with
  | none => exact h
  | some x => unfold nbL; simp only; split
              · exact h
              · rename_i e; exact List.nodup_append.2 ⟨h, by simp, by rintro a d b c rfl; simp at c; exact e (c ▸ d)⟩
theorem vB: ∀ {l:List κ} {os:List (Option κ)},l.Nodup->(nbS l os).Nodup
 | l,[],h=>h
 | l,o::os,h=>vB (l:=nbL l o) (os:=os) (RM h)
theorem RN {l : List κ} {o : Option κ} {x : κ} : x ∈ nbL l o ↔ x ∈ l \/ o = some x := by
  cases o with
  | none => simp [nbL]
  | some y => unfold nbL; simp only; split
              · rename_i h; constructor
                · exact .inl
                · rintro (a | a)
                  · exact a
                  · simp at a; exact a ▸ h
              · simp; exact or_congr Iff.rfl eq_comm
theorem AI: ∀ {l:List κ} {os:List (Option κ)} {x:κ},x∈nbS l os↔x∈l\/some x∈os
 | l,[],x=>by simp[nbS]
 | l,o::os,x=>by
  show x∈nbS (nbL l o) os↔_;rw[AI,RN,List.mem_cons,or_assoc];exact or_congr Iff.rfl (or_congr eq_comm Iff.rfl)
theorem po {l:List κ} {x:κ} (h:x∈l):nbL l (some x)=l:=by simp[nbL,h]
theorem pq {l:List κ} {x:κ} (h:x∉l):nbL l (some x)=l++ [x]:=by simp[nbL,h]
theorem sU {l:List κ} {x:κ} (h:x∉l):l.idxOf x=l.length:=List.idxOf_eq_length h
def bfS (nx:κ->List (Option κ)) (first:κ):Nat->List κ
 | 0=>[first]
 | i+1=>match (bfS nx first i)[i]? with
  | some x=>nbS (bfS nx first i) (nx x)
  | none=>bfS nx first i
def bfR (nx:κ->List (Option κ)) (first:κ):Nat->List (List Int)
 | 0=>[]
 | i+1=>bfR nx first i++(match (bfS nx first i)[i]? with
  | some x=>[nbR (bfS nx first i) (nx x)]
  | none=>[])
variable {nx:κ->List (Option κ)} {first:κ}
theorem Hn {i:Nat} (h:i<(bfS nx first i).length):bfS nx first (i+1)=nbS (bfS nx first i) (nx ((bfS nx first i)[i])):=by
 rw[bfS,List.getElem?_eq_getElem h]
theorem zq {i:Nat} (h:i<(bfS nx first i).length):bfR nx first (i+1)=bfR nx first i++ [nbR (bfS nx first i) (nx ((bfS nx first i)[i]))]:=by
 rw[bfR,List.getElem?_eq_getElem h]
theorem cd (i:Nat):bfS nx first i <+:bfS nx first (i+1):=by
 rw[bfS];split
 ·exact om _ _
 ·exact List.prefix_refl _
theorem AJ {i j:Nat} (h:i<=j):bfS nx first i <+:bfS nx first j:=by
 induction h with
 | refl=>exact List.prefix_refl _
 | step _ ih=>exact ih.trans (cd _)
theorem qP: ∀i,(bfS nx first i).Nodup
 | 0=>by simp[bfS]
 | i+1=>by
  rw[bfS];split
  ·exact vB (qP i)
  ·exact qP i
theorem nD {G:κ->Prop} (b:G first) (h: ∀x,G x-> ∀y,some y∈nx x->G y): ∀i,∀x∈bfS nx first i,G x
 | 0=>by simp[bfS];exact b
 | i+1=>by
  rw[bfS];split
  ·rename_i y c;intro x a;rcases AI.1 a with a | a
   ·exact nD b h i x a
   ·exact h y (nD b h i y (List.mem_of_getElem? c)) x a
  ·exact nD b h i
theorem Jp (i:Nat):(bfS nx first i)[0]? =some first:=by
 obtain ⟨t,a⟩:=AJ (nx:=nx) (first:=first) (Nat.zero_le i);rw[<-a];rfl
theorem mN: ∀ {i:Nat},(∀j,j<i->j<(bfS nx first j).length)->(bfR nx first i).length=i
 | 0,_=>rfl
 | i+1,h=>by rw[zq (h i (by omega)),au,mN fun j a=>h j (by omega)];rfl
def bfE (nx:κ->List (Option κ)) (first:κ) (N:Nat):Prop:=N=(bfS nx first N).length/\ ∀i,i<N->i<(bfS nx first i).length
theorem Xm {B:Nat} (c: ∀i,(bfS nx first i).length<=B): ∃N,N<=B/\bfE nx first N:=by
 have key: ∀m i,i+m=B->(∀j,j<i->j<(bfS nx first j).length)-> ∃N,N<=B/\bfE nx first N:=by
  intro m;induction m with
  | zero =>
   intro i f a;have g:=c i;have b:i<=(bfS nx first i).length:=by
    cases i with
    | zero=>omega
    | succ i =>
     have:=a i (by omega)
     have hp:=(cd (nx:=nx) (first:=first) i).length_le;omega
   exact ⟨i,by omega,by omega,a⟩
  | succ m ih =>
   intro i f a;by_cases h:i<(bfS nx first i).length
   ·exact ih (i+1) (by omega) fun j d=>by
     by_cases e:j=i
     ·subst e;exact h
     ·exact a j (by omega)
   ·have b:i<=(bfS nx first i).length:=by
     cases i with
     | zero=>omega
     | succ i =>
      have:=a i (by omega)
      have hp:=(cd (nx:=nx) (first:=first) i).length_le;omega
    exact ⟨i,by omega,by omega,a⟩
 exact key B 0 (by omega) (by omega)
theorem VI {N M:Nat} (h:bfE nx first N) (k:bfE nx first M):N=M:=by
 rcases Nat.lt_trichotomy N M with e | e | e
 ·have:=k.2 N e;have:=h.1;omega
 ·exact e
 ·have:=h.2 M e;have:=k.1;omega
end
theorem MX (x:Int):0<=sd x 255/\sd x 255<=255:=by
 have h:(BitVec.ofInt 64 x &&& BitVec.ofInt 64 255).toNat<=255:=by
  rw[BitVec.toNat_and];exact Nat.le_trans Nat.and_le_right (by decide)
 unfold sd;rw[bd (by omega) (by omega)];omega
def jE (xs:List Int) (i:Int):Prop:=0<=i/\i<=(xs.length:Int)
section
variable {xs:List Int} {i h:Int}
theorem aef (m:xs.length<=1048576): ∃r:Int×Int,yH xs=some r/\jE xs r.1:=by
 have key: ∃s,ah (qY xs) aR (i64.wrap (10101+(xs.length:Int)),0)=some (.brk s):=by
  obtain ⟨o,e,s,rfl⟩:=bW (f:=qY xs) (fun j s=>s.2=(j:Int)) (fun o=> ∃s,o= .brk s) xs.length (fun j s n g=>by
   obtain ⟨a,b⟩:=s;obtain rfl:b=(j:Int):=g;unfold qY;simp only;rw[ZP];by_cases d:j<xs.length
   ·rw[if_pos (by simpa using d)];by_cases c:((j:Nat):Int)<4000
    ·rw[if_pos (by simpa using c),ai (by omega) (by omega)];simp only[aa];exact .inl ⟨d,_,rfl,by show i64.wrap ((j:Int)+1)=_;rw[bd (by omega) (by omega)];omega⟩
    ·rw[if_neg (by simpa using c)];exact .inr ⟨_,rfl,(fun l e=>by cases e),_,rfl⟩
   ·rw[if_neg (by simpa using d)];exact .inr ⟨_,rfl,(fun l e=>by cases e),_,rfl⟩) (s:=(i64.wrap (10101+(xs.length:Int)),0)) rfl (mB (by omega))
  exact ⟨s,e⟩
 obtain ⟨s,k⟩:=key;unfold yH;rw[af k];exact ⟨_,rfl,by show (0:Int)<=0;omega,by show (0:Int)<=_;omega⟩
theorem Jq (b:xs.length<=1048576) (a:jE xs i): ∃r:Int×Int×Int,mF (xs,i,h)=some r/\(0<=r.1/\r.1<=255)/\jE xs r.2.1:=by
 unfold mF;simp only;by_cases c:i<(xs.length:Int)
 ·rw[if_pos (by simpa using c),ai a.1 c];simp only[aa];refine ⟨_,rfl,MX _,?_⟩;show jE xs (i64.wrap (i+1))
  have:=a.1
  rw[bd (by omega) (by omega)];exact ⟨by omega,by omega⟩
 ·rw[if_neg (by simpa using c)];simp only[aa];exact ⟨_,rfl,MX _,a⟩
theorem bN (g:xs.length<=1048576) (m:jE xs i) {n:Int} (j:0<n): ∃r:Int×Int×Int,aN (xs,i,h) n=some r/\(0<=r.1/\r.1<n)/\jE xs r.2.1:=by
 unfold aN;simp only;rw[if_neg (by simpa using j)];have f:chk (n≠0)=some ():=by unfold chk;rw[if_pos (by omega)]
 by_cases c:n<=256
 ·rw[if_pos (by simpa using c)];obtain ⟨r,e,o,k⟩:=Jq (h:=h) g m;rw[e,f];simp only[aa];exact ⟨_,rfl,⟨Int.tmod_nonneg _ o.1,Int.tmod_lt_of_pos _ j⟩,k⟩
 ·rw[if_neg (by simpa using c)];obtain ⟨a,v,o,s⟩:=Jq (h:=h) g m;rw[v];simp only[aa];obtain ⟨b,C,k,t⟩:=Jq (h:=a.2.2) g s;rw[C];simp only[aa];obtain ⟨d,D,F,B⟩:=Jq (h:=b.2.2) g t;rw[D];simp only[aa];obtain ⟨l,A,E,x⟩:=Jq (h:=d.2.2) g B;rw[A,f];simp only[aa];have w:i64.wrap (a.1*16777216)=a.1*16777216:=bd (by omega) (by omega);have u:i64.wrap (b.1*65536)=b.1*65536:=bd (by omega) (by omega);have q:i64.wrap (d.1*256)=d.1*256:=bd (by omega) (by omega);have z:i64.wrap (a.1*16777216+b.1*65536)=a.1*16777216+b.1*65536:=bd (by omega) (by omega);have p:i64.wrap (a.1*16777216+b.1*65536+d.1*256)=a.1*16777216+b.1*65536+d.1*256:=bd (by omega) (by omega);have y:i64.wrap (a.1*16777216+b.1*65536+d.1*256+l.1)=a.1*16777216+b.1*65536+d.1*256+l.1:=bd (by omega) (by omega);rw[w,u,q,z,p,y];exact ⟨_,rfl,⟨Int.tmod_nonneg _ (by omega),Int.tmod_lt_of_pos _ j⟩,x⟩
theorem zr (b:xs.length<=1048576) (c:jE xs i) {n:Int} (a:0<n): ∃r:Bool×Int×Int,cM (xs,i,h) n=some r/\jE xs r.2.1:=by
 obtain ⟨r,e,-,k⟩:=bN (h:=h) b c a;unfold cM;simp only;rw[e];exact ⟨_,rfl,k⟩
theorem fc (c:xs.length<=1048576) (d:jE xs i) {l:List Int} (b:l≠ []): ∃r:Int×Int×Int,bS (xs,i,h) l=some r/\r.1∈l/\jE xs r.2.1:=by
 have hp:0<(l.length:Int):=by have:=List.length_pos_iff.2 b;omega
 obtain ⟨r,e,a,k⟩:=bN (h:=h) c d hp;unfold bS;simp only;rw[e];simp only[aa];rw[ai a.1 a.2];simp only[aa];exact ⟨_,rfl,bG a.1 a.2,k⟩
theorem ab8 (c:xs.length<=1048576) (d:jE xs i) {l:List ByteArray} (b:l≠ []): ∃r:ByteArray×Int×Int,vV (xs,i,h) l=some r/\r.1∈l/\jE xs r.2.1:=by
 have hp:0<(l.length:Int):=by have:=List.length_pos_iff.2 b;omega
 obtain ⟨r,e,a,k⟩:=bN (h:=h) c d hp;unfold vV;simp only;rw[e];simp only[aa];rw[ai a.1 a.2];simp only[aa];exact ⟨_,rfl,bG a.1 a.2,k⟩
end
abbrev AutT:=Int×(List Bool)×(List (List Int))
structure VA (a:AutT) (n:Nat):Prop where
 len:a.2.1.length=n
 start:0<=a.1/\a.1<n
 nlen:a.2.2.length=n
 row: ∀r∈a.2.2,r.length=9
 ent: ∀r∈a.2.2,∀t∈r,-1<=t/\t<n
def mv (a:AutT) (s:Int) (k:Nat):Int:=nth (nth a.2.2 s) k
theorem xm (x l h:Int):cB x l h=some (decide (l<=x/\x<=h)):=by
 unfold cB;by_cases c:l<=x
 ·simp[c]
 ·have: ¬l<=x/\True:=⟨c,trivial⟩
  simp[c]
theorem Ep (x l h:Int):bX x l h=some (decide (l<=x/\x<=h)):=by
 unfold bX;by_cases c:l<=x
 ·simp[c]
 ·simp[c]
theorem scan {α R:Type} [Inhabited α] {f:Int->Option (Out R Int)} (xs:List α) (p:α->Prop) [DecidablePred p] (r:R) (k:xs.length<=9223372036854775807)
  (h: ∀i:Nat,i<xs.length->f (i:Int)=some (if p (nth xs i) then .nxt ((i+1:Nat):Int) else .ret r)) (l:f (xs.length:Int)=some (.brk (xs.length:Int))) :
  (ah f aR 0=some (.brk (xs.length:Int))/\ ∀x∈xs,p x)\/(ah f aR 0=some (.ret r)/\ ¬ ∀x∈xs,p x):=by
 obtain ⟨o,e,a⟩:=bW (f:=f) (fun i s=>s=(i:Int)/\ ∀j:Nat,j<i->p (nth xs j)) (fun o=>(o= .brk (xs.length:Int)/\ ∀x∈xs,p x)\/(o= .ret r/\ ¬ ∀x∈xs,p x)) xs.length (s:=0) (by
  rintro i s n ⟨rfl,hp⟩;by_cases d:i<xs.length
  ·by_cases c:p (nth xs i)
   ·refine .inl ⟨d,_,by rw[h i d,if_pos c],rfl,fun j g=>?_⟩;by_cases e:j=i
    ·subst e;exact c
    ·exact hp j (by omega)
   ·refine .inr ⟨_,by rw[h i d,if_neg c],(fun m e=>by cases e),.inr ⟨rfl,fun b=>c (b _ (bG (by omega) (by omega)))⟩⟩
  ·obtain rfl:i=xs.length:=by omega
   refine .inr ⟨_,l,(fun m e=>by cases e),.inl ⟨rfl,fun x b=>?_⟩⟩;obtain ⟨j,g,rfl⟩:=DQ b;exact hp j g) ⟨rfl,by omega⟩ (mB k)
 rcases a with ⟨rfl,a⟩ | ⟨rfl,a⟩
 ·exact .inl ⟨e,a⟩
 ·exact .inr ⟨e,a⟩
section
variable {a:AutT} {n:Nat} (V:VA a n)
include V
theorem VA.pos:0<n:=by have:=V.start;omega
theorem VA.rowAt {s:Int} (b:0<=s) (h1:s<n):(nth a.2.2 s).length=9:=V.row _ (bG b (by rw[V.nlen];exact h1))
theorem VA.mv {s:Int} {k:Nat} (b:0<=s) (h1:s<n) (c:k<9): -1<=mv a s k/\mv a s k<n:=
 V.ent _ (bG b (by rw[V.nlen];exact h1)) _ (bG (by omega) (by rw[V.rowAt b h1];omega))
theorem VA.get {s:Int} (b:0<=s) (h1:s<n):aO a.2.2 s=some (nth a.2.2 s):=ai b (by rw[V.nlen];exact h1)
theorem VA.get2 {s:Int} {k:Nat} (b:0<=s) (h1:s<n) (c:k<9):aO (nth a.2.2 s) (k:Int)=some (D.mv a s k):=ai (by omega) (by rw[V.rowAt b h1];omega)
theorem VA.acc {s:Int} (b:0<=s) (h1:s<n):aO a.2.1 s=some (nth a.2.1 s):=ai b (by rw[V.len];exact h1)
theorem MY {s:Int} {k:Nat} (b:0<=s) (h1:s<n) (c:k<9):cm a s (k:Int)=some (mv a s k):=by
 unfold cm mI;rw[if_neg (by simp;omega),Ep];simp only[aa];rw[if_pos (by simp;omega),V.get b h1];simp only[aa];rw[V.get2 b h1 c];rfl
end
abbrev Tok:=Int×Int×Int×Int
def ar (t:Tok):Int:=
 if t.1=1\/t.1=2 then (if t.2.1=0/\t.2.2.1=0/\t.2.2.2=0 then 0 else -1)
 else if t.1=3 then (if (0<=t.2.1/\t.2.1<=8)/\t.2.2.1=0/\t.2.2.2=0 then 0 else -1)
 else if t.1=4\/t.1=5 then (if t.2.1=0/\t.2.2.1=0/\t.2.2.2=0 then 2 else -1)
 else if t.1=6 then (if t.2.1=0/\t.2.2.1=0/\t.2.2.2=0 then 1 else -1)
 else if t.1=7 then (if t.2.1=0/\(0<=t.2.2.1/\t.2.2.1<=t.2.2.2)/\(1<=t.2.2.2/\t.2.2.2<=3) then 1 else -1)
 else -1
theorem VJ (x:Int):oM x=some (decide (0<=x/\x<=8)):=by unfold oM;rw[xm];rfl
theorem VK (x:Int):mI x=some (decide (0<=x/\x<=8)):=by unfold mI;rw[Ep];rfl
theorem aff (t:Tok):qj t=some (ar t):=by
 obtain ⟨k,l,i,h⟩:=t;unfold qj ar;simp only[VJ,xm,aa];by_cases b:k=1
 ·subst b;simp;grind
 by_cases d:k=2
 ·subst d;simp;grind
 by_cases c:k=3
 ·subst c;simp;grind
 by_cases f:k=4
 ·subst f;simp;grind
 by_cases a:k=5
 ·subst a;simp;grind
 by_cases e:k=6
 ·subst e;simp;grind
 by_cases g:k=7
 ·subst g;simp;grind
 simp[b,d,c,f,a,e,g]
theorem ab9 (t:Tok):tv t=some (decide (0<=ar t)):=by
 obtain ⟨k,l,e,d⟩:=t;unfold tv ar;simp only[VK,Ep,aa];by_cases g:k=1
 ·subst g;simp;grind
 by_cases i:k=2
 ·subst i;simp;grind
 by_cases h:k=3
 ·subst h;simp only[];by_cases a:0<=l/\l<=8 <;> by_cases b:e=0 <;> by_cases c:d=0 <;> simp[a,b,c]
 by_cases m:k=4
 ·subst m;simp;grind
 by_cases f:k=5
 ·subst f;simp;grind
 by_cases j:k=6
 ·subst j;simp;grind
 by_cases n:k=7
 ·subst n;simp only[];by_cases a:l=0 <;> by_cases b:0<=e/\e<=d <;> by_cases c:1<=d/\d<=3 <;> simp[a,b,c]
 simp[g,i,h,m,f,j,n]
theorem zt (t:Tok): -1<=ar t/\ar t<=2:=by
 unfold ar;grind
theorem oo {t:Tok} (h:0<=ar t):(ar t=2/\(t.1=4\/t.1=5))\/(ar t=1/\(t.1=6\/t.1=7))\/(ar t=0/\(t.1=1\/t.1=2\/t.1=3)):=by
 unfold ar at h⊢;grind
theorem DR {t:Tok} (h:0<=ar t) (k:t.1=7):(0<=t.2.2.1/\t.2.2.1<=t.2.2.2)/\(1<=t.2.2.2/\t.2.2.2<=3):=by
 unfold ar at h;grind
mutual
def flat:Tr Tok->List Tok
 | .nil=>[]
 | .node t ks=>mC ks++ [t]
def mC:List (Tr Tok)->List Tok
 | [] =>[]
 | k::ks=>flat k++mC ks
end
inductive WT:Tr Tok->Prop
 | node {t:Tok} {ks:List (Tr Tok)} :ar t=(ks.length:Int)->(∀k,k∈ks->WT k)->WT (.node t ks)
theorem sV: ∀(a b:List (Tr Tok)),mC (a++b)=mC a++mC b
 | [],b=>rfl
 | k::a,b=>by rw[List.cons_append,mC,mC,sV a b,aH]
theorem o6 (x:Tr Tok):mC [x] =flat x:=by rw[mC,mC,List.append_nil]
theorem RO (x y:Tr Tok):mC [x,y] =flat x++flat y:=by rw[mC,o6]
theorem WT.cases {x:Tr Tok} (h:WT x):(∃t,x= .node t [] /\ar t=0)\/(∃t a,x= .node t [a] /\ar t=1/\WT a)\/ ∃t a b,x= .node t [a,b] /\ar t=2/\WT a/\WT b:=by
 cases h with
 | @node t e c d =>
  have:=(zt t).2
  match e,c,d with
  | [],c,d=>exact .inl ⟨t,rfl,c⟩
  | [a],c,d=>exact .inr (.inl ⟨t,a,rfl,c,d a (by simp)⟩)
  | [a,b],c,d=>exact .inr (.inr ⟨t,a,b,rfl,c,d a (by simp),d b (by simp)⟩)
  | _::_::_::_,c,d=>simp at c;omega
theorem WT.ind {p:Tr Tok->Prop} (f: ∀t,ar t=0->p (.node t [])) (h1: ∀t a,ar t=1->WT a->p a->p (.node t [a])) (g: ∀t a b,ar t=2->WT a->WT b->p a->p b->p (.node t [a,b])) {x:Tr Tok} (h:WT x):p x:=by
 induction h with
 | @node t d e k c =>
  have:=(zt t).2
  match d,e,k,c with
  | [],e,k,c=>exact f t e
  | [a],e,k,c=>exact h1 t a e (k a (by simp)) (c a (by simp))
  | [a,b],e,k,c=>exact g t a b e (k a (by simp)) (k b (by simp)) (c a (by simp)) (c b (by simp))
  | _::_::_::_,e,_,_=>simp at e;omega
theorem Ho (t:Tok):flat (.node t [])= [t]:=by rw[flat,mC];rfl
theorem EY (t:Tok) (a:Tr Tok):flat (.node t [a])=flat a++ [t]:=by rw[flat,o6]
theorem zu (t:Tok) (a b:Tr Tok):flat (.node t [a,b])=(flat a++flat b)++ [t]:=by rw[flat,RO]
theorem WT.pos {x:Tr Tok} (h:WT x):1<=(flat x).length:=by
 cases h with
 | node a b=>rw[flat];simp
def stp (s:List (Tr Tok)) (t:Tok):Option (List (Tr Tok)):=if ar t<0\/(s.length:Int)<ar t then none else some (s.take (s.length - (ar t).toNat)++ [.node t (s.drop (s.length - (ar t).toNat))])
def run:List (Tr Tok)->List Tok->Option (List (Tr Tok))
 | s,[] =>some s
 | s,t::l=>(stp s t).bind fun s'=>run s' l
theorem Hq: ∀(a:List Tok) {b:List Tok} {s:List (Tr Tok)},run s (a++b)=(run s a).bind fun c=>run c b
 | [],b,s=>rfl
 | t::a,b,s=>by
  rw[List.cons_append,run,run];cases stp s t with
  | none=>rfl
  | some c=>exact Hq a
theorem zw {a:List Tok} {t:Tok} {s:List (Tr Tok)} :run s (a++ [t])=(run s a).bind fun b=>stp b t:=by
 rw[Hq];congr 1;funext b;rw[run];cases stp b t <;> rfl
theorem Xn: ∀ {l:List Tok} {s b:List (Tr Tok)},run s l=some b->(∀k,k∈s->WT k)->(∀k,k∈b->WT k)/\mC b=mC s++l
 | [],s,b,h,hs=>by
  obtain rfl:=ad h;exact ⟨hs,by simp⟩
 | t::l,s,b,h,hs=>by
  rw[run] at h;unfold stp at h;by_cases c:ar t<0\/(s.length:Int)<ar t
  ·rw[if_pos c] at h;cases h
  ·rw[if_neg c] at h;have d:(s.drop (s.length - (ar t).toNat)).length=(ar t).toNat:=by rw[bq];omega
   obtain ⟨e,f⟩:=Xn (show run _ l=some b from h) fun k a=>by
    rcases aI a with a | a
    ·exact hs k (List.mem_of_mem_take a)
    ·obtain rfl:=aq a;exact .node (by rw[d];omega) fun k a=>hs k (List.mem_of_mem_drop a)
   refine ⟨e,?_⟩;rw[f,sV,o6,flat,<-aH,<-sV,List.take_append_drop];simp
theorem VL {x:Tr Tok} (h:WT x): ∀s,run s (flat x)=some (s++ [x]):=by
 refine WT.ind (p:=fun x=> ∀s,run s (flat x)=some (s++ [x])) ?_ ?_ ?_ h
 ·intro t e s;rw[Ho,run,stp,if_neg (by omega),e];simp[run]
 ·intro t a e _ c s;rw[EY,zw,c];show stp (s++ [a]) t=_;rw[stp,if_neg (by simp;omega),e];simp
 ·intro t a b e _ _ c d s;rw[zu,zw,Hq,c];show ((run (s++ [a]) (flat b)).bind fun f=>stp f t)=_;rw[d];show stp (s++ [a] ++ [b]) t=_;rw[stp,if_neg (by simp;omega),e]
  have:(s++ [a] ++ [b]).length - (2:Int).toNat=s.length:=by simp
  rw[this];simp
def isX (e:List Tok):Bool:=match run [] e with
 | some [_] =>true
 | _=>false
theorem MZ {e:List Tok} (h:isX e=true): ∃x,run [] e=some [x] /\WT x/\flat x=e:=by
 unfold isX at h;split at h
 ·rename_i x a;obtain ⟨d,b⟩:=Xn a (fun k c=>by cases c);refine ⟨x,a,d x (by simp),?_⟩;rw[o6] at b;rw[b];rfl
 ·cases h
theorem RP {l:List Tok} : ∀ {s b:List (Tr Tok)},run s l=some b->b.length<=s.length+l.length:=by
 induction l with
 | nil=>intro s b h;obtain rfl:=ad h;simp
 | cons t l ih =>
  intro s b h;rw[run] at h;obtain ⟨e,a,d⟩:=Option.bind_eq_some_iff.1 h;have c:=ih d;unfold stp at a;split at a
  ·cases a
  ·obtain rfl:=ad a;simp only[au,az,aw,aD] at c⊢;omega
theorem DS {e:List Tok} {i:Nat} (h:i<e.length):e.take (i+1)=e.take i++ [nth e (i:Int)]:=by
 rw[List.take_succ_eq_append_getElem h,bJ h]
theorem Cc {e:List Tok} {i:Nat} (h:i<e.length) {a:List (Tr Tok)} (h1:run [] (e.take i)=some a) (b:stp a (nth e (i:Int))=none):run [] e=none:=by
 have:run [] (e.take (i+1))=none:=by rw[DS h,zw,h1];exact b
 rw[<-List.take_append_drop (i+1) e,Hq,this];rfl
theorem VM {e:List Tok} (q:e.length<=1048576):vT e=some (isX e):=by
 obtain ⟨o,j,m⟩:=bW (f:=tn e) (fun i s=> ∃a,s=((a.length:Int),(i:Int))/\run [] (e.take i)=some a) (fun o=>(o= .ret false/\run [] e=none)\/ ∃a,o= .brk ((a.length:Int),(e.length:Int))/\run [] e=some a) e.length (s:=(0,0)) (by
  rintro i s r ⟨a,rfl,b⟩;have l:=RP b;simp only[aD,az] at l;unfold tn;simp only[fx];by_cases c:i<e.length
  ·rw[if_pos (by simp;omega),ai (by omega) (by omega)];simp only[aa];rw[aff];simp only[aa];have p:=zt (nth e (i:Int));by_cases g:ar (nth e (i:Int))<0
   ·refine .inr ⟨_,by rw[if_pos (by simpa using g)],(fun k e=>by cases e),.inl ⟨rfl,Cc c b ?_⟩⟩;rw[stp,if_pos (.inl g)]
   ·rw[if_neg (by simpa using g)];by_cases d:ar (nth e (i:Int))>(a.length:Int)
    ·refine .inr ⟨_,by rw[if_pos (by simpa using d)],(fun k e=>by cases e),.inl ⟨rfl,Cc c b ?_⟩⟩;rw[stp,if_pos (.inr d)]
    ·rw[if_neg (by simpa using d)];refine .inl ⟨c,_,rfl,a.take (a.length - (ar (nth e (i:Int))).toNat)++ [.node (nth e (i:Int)) (a.drop (a.length - (ar (nth e (i:Int))).toNat))],?_,?_⟩
     ·rw[bd (n:=(a.length:Int) - ar (nth e (i:Int))) (by omega) (by omega),bd (by omega) (by omega),ae (by omega)];congr 1;simp only[au,az,aw,aD];omega
     ·rw[DS c,zw,b];show stp a _=_;rw[stp,if_neg (by omega)]
  ·obtain rfl:i=e.length:=by omega
   rw[List.take_of_length_le (by omega)] at b;exact .inr ⟨_,by rw[if_neg (by simp)],(fun k e=>by cases e),.inr ⟨a,rfl,b⟩⟩) ⟨[],rfl,rfl⟩ (mB (by omega))
 unfold vT;rcases m with ⟨rfl,h⟩ | ⟨a,rfl,h⟩
 ·rw[aW j];unfold isX;rw[h]
 ·rw[af j];unfold isX;rw[h]
  match a with
  | [] =>rfl
  | [_] =>rfl
  | _::_::_=>simp;omega
theorem aeg {t:Tok} (h:0<=ar t):(Option.bind ((if t.1==4 then (some (t.1==4)) else (some (t.1==5)):Option Bool)) (fun b=>if b then (some 2) else (Option.bind ((if t.1==6 then (some (t.1==6)) else (some (t.1==7)):Option Bool)) (fun a=>if a then (some 1) else (some 0)))):Option Int)=some (ar t):=by
 rcases oo h with ⟨e,k | k⟩ | ⟨e,k | k⟩ | ⟨e,k | k | k⟩ <;> rw[e] <;> simp[k]
theorem ZS (t:Tok): ∃n:Int,(Option.bind ((if t.1==4 then (some (t.1==4)) else (some (t.1==5)):Option Bool)) (fun f=>if f then (some 2) else (Option.bind ((if t.1==6 then (some (t.1==6)) else (some (t.1==7)):Option Bool)) (fun e=>if e then (some 1) else (some 0)))):Option Int)=some n:=by
 by_cases c:t.1=4
 ·exact ⟨2,by simp[c]⟩
 by_cases a:t.1=5
 ·exact ⟨2,by simp[a]⟩
 by_cases b:t.1=6
 ·exact ⟨1,by simp[b]⟩
 by_cases d:t.1=7
 ·exact ⟨1,by simp[d]⟩
 exact ⟨0,by simp[c,a,b,d]⟩
def BU (e:List Tok):Tr Tok:=match run [] e with
 | some [x] =>x
 | _=>.nil
theorem Hr {e:List Tok} (t:e.length<=1048576):pX e=some (BU e):=by
 obtain ⟨o,d,m⟩:=bW (f:=tw e) (fun i s=> ∃a,s=(a,(i:Int))/\run [] (e.take i)=some a) (fun o=>(o= .ret Tr.nil/\run [] e=none)\/ ∃a,o= .brk (a,(e.length:Int))/\run [] e=some a) e.length (s:=([],0)) (by
  rintro i s u ⟨a,rfl,b⟩;have r:=RP b;simp only[aD,az] at r;unfold tw;simp only[fx];by_cases c:i<e.length
  ·rw[if_pos (by simp;omega),ai (by omega) (by omega)];simp only[aa];have v:=zt (nth e (i:Int));by_cases q:ar (nth e (i:Int))<0
   ·obtain ⟨n,j⟩:=ZS (nth e (i:Int));rw[j];simp only[aa];rw[ab9];simp only[aa];refine .inr ⟨_,by rw[if_neg (by simp;omega)],(fun g e=>by cases e),.inl ⟨rfl,Cc c b ?_⟩⟩;rw[stp,if_pos (.inl q)]
   ·rw[aeg (by omega)];simp only[aa];rw[ab9];simp only[aa];rw[if_pos (by simp;omega),bd (n:=(a.length:Int) - ar (nth e (i:Int))) (by omega) (by omega)];by_cases k:ar (nth e (i:Int))>(a.length:Int)
    ·refine .inr ⟨_,by rw[if_pos (by simp;omega)],(fun g e=>by cases e),.inl ⟨rfl,Cc c b ?_⟩⟩;rw[stp,if_pos (.inr k)]
    ·rw[if_neg (by simp;omega),show∀p:Prop,∀ [Decidable p],p->chk p=some () from fun p _ hp=>by unfold chk;rw[if_pos hp]]
     ·simp only[aa];have l:((a.length:Int) - ar (nth e (i:Int))).toNat=a.length - (ar (nth e (i:Int))).toNat:=by omega
      rw[l,al (by simp;omega)];simp only[aa];rw[al (by simp;omega)];simp only[aa,List.nil_append,ae (show i<9223372036854775807 by omega)];refine .inl ⟨c,_,rfl,_,rfl,?_⟩;rw[DS c,zw,b];show stp a _=_;rw[stp,if_neg (by omega)]
     ·omega
  ·obtain rfl:i=e.length:=by omega
   rw[List.take_of_length_le (by omega)] at b;exact .inr ⟨_,by rw[if_neg (by simp)],(fun g e=>by cases e),.inr ⟨a,rfl,b⟩⟩) ⟨[],rfl,rfl⟩ (mB (by omega))
 unfold pX;rcases m with ⟨rfl,h⟩ | ⟨a,rfl,h⟩
 ·rw[aW d];unfold BU;rw[h]
 ·rw[af d];unfold BU;rw[h]
  match a with
  | [] =>rfl
  | [x] =>rfl
  | _::_::_ =>
   simp only;rw[if_pos (by simp;omega)]
theorem wt {x:Tr Tok} (h:WT x):BU (flat x)=x:=by unfold BU;rw[VL h];rfl
theorem VN {e:List Tok} (d:e.length<=1048576):wc e=some (isX e):=by
 unfold wc;rw[Hr d];simp only[aa];congr 1;by_cases h:isX e=true
 ·rw[h];obtain ⟨x,a,b,f⟩:=MZ h
  have:BU e=x:=by unfold BU;rw[a]
  rw[this];cases b with
  | node _ _=>rfl
 ·have:BU e= .nil:=by
   unfold BU;unfold isX at h;split
   ·rename_i x c;rw[c] at h;exact absurd rfl h
   ·rfl
  rw[this,Bool.eq_false_iff.2 h];rfl
theorem DT {e:List Tok} (a:e.length<=1048576):kp e=some (decide (e.length<=24)&&isX e):=by
 unfold kp;rw[VM a];by_cases c:e.length<=24
 ·rw[if_pos (by simp;omega)];simp[c]
 ·rw[if_neg (by simp;omega)];simp[c]
theorem Lc {e:List Tok} (a:e.length<=1048576):nh e=some (decide (e.length<=24)&&isX e):=by
 unfold nh;rw[VN a];by_cases c:e.length<=24
 ·rw[if_pos (by simp;omega)];simp[c]
 ·rw[if_neg (by simp;omega)];simp[c]
theorem kT {p:Prop} [Decidable p] (h:p):chk p=some ():=by unfold chk;rw[if_pos h]
theorem ZT {A:List Tok} {x:Tr Tok} (D:WT x) (C:(A++flat x).length<=1000000):kt (A++flat x)=some (A.length:Int):=by
 obtain ⟨j,e,c,M,G,K⟩: ∃j,ah (ox (A++flat x)) aR (1,((A++flat x).length:Int))=some (.brk j)/\ ∃c:List (Tr Tok),c= [] /\j.2=(A.length:Int)/\True:=by
  obtain ⟨o,E,F⟩:=bW (f:=ox (A++flat x)) (fun i s=> ∃c:List (Tr Tok),(∀k,k∈c->WT k)/\s=((c.length:Int),(((A++mC c).length:Nat):Int))/\i+(mC c).length=(flat x).length/\(A++flat x).take (A++mC c).length=A++mC c) (fun o=> ∃j,o= .brk j/\j.2=(A.length:Int)) (flat x).length (s:=(1,((A++flat x).length:Int))) (by
   rintro i s L ⟨c,B,rfl,m,g⟩;unfold ox;simp only[fx];rcases List.eq_nil_or_concat c with rfl | ⟨a,y,rfl⟩
   ·refine .inr ⟨_,by rw[if_neg (by simp)],(fun j e=>by cases e),_,rfl,?_⟩;simp[mC]
   ·have I:=B y (by simp);cases I with
    | @node t b z v =>
     have w:mC (a++ [.node t b])=mC (a++b)++ [t]:=by rw[sV,o6,flat,sV,aH]
     rw[List.concat_eq_append,w] at m g⊢;simp only[au,aw,aD] at m g C⊢;rw[if_pos (by simp <;> omega)];have q:i64.wrap (((A.length+((mC (a++b)).length+1):Nat):Int) - 1)=((A.length+(mC (a++b)).length:Nat):Int):=by
      rw[bd (by omega) (by omega)];omega
     have u:nth (A++flat x) ((A.length+(mC (a++b)).length:Nat):Int)=t:=by
      have r:A.length+(mC (a++b)).length<(A++flat x).length:=by rw[au];omega
      have p:=congrArg (fun l:List Tok=>l[A.length+(mC (a++b)).length]?) g;rw[List.getElem?_take_of_lt (by omega),List.getElem?_eq_getElem r,<-aH,List.getElem?_append_right (by rw[au];omega),au] at p;rw[bJ r];simpa using p
     rw[q,ai (by omega) (by simp only[au];omega),u];simp only[aa];rw[aff,z];simp only[aa];have H:(b.length:Int)<=2:=by rw[<-z];exact (zt t).2
     have J:a.length<=(mC (a++b)).length+1000000:=by
      have: ∀l:List (Tr Tok),(∀k,k∈l->WT k)->l.length<=(mC l).length:=by
       intro l;induction l with
       | nil=>intro _;simp
       | cons k l ih =>
        intro h;have z:=(h k (by simp)).pos;have v:=ih fun k d=>h k (by simp[d]);rw[mC];simp only[aw,au];omega
      have:=this a fun k d=>B k (by simp[d])
      rw[sV,au];omega
     refine .inl ⟨by omega,_,rfl,a++b,fun k d=>?_,?_,by omega,?_⟩
     ·rcases aI d with d | d
      ·exact B k (by simp[d])
      ·exact v k d
     ·rw[bd (n:=((a.length+1:Nat):Int) - 1) (by omega) (by omega),bd (by omega) (by omega)];congr 1
      (simp only[au]) <;> omega
     ·have p:=congrArg (List.take (A++mC (a++b)).length) g;rw[List.take_take,Nat.min_eq_left (by rw[au];omega),<-aH,List.take_left] at p;rw[au] at p;exact p) ⟨[x],fun k d=>by (obtain rfl:=aq d;exact D),by rw[o6];rfl,by rw[o6];omega,by rw[o6,List.take_length]⟩ (mB (by rw[au] at C;omega))
  obtain ⟨j,rfl,v⟩:=F;exact ⟨j,E,[],rfl,v,trivial⟩
 unfold kt;rw[af e,G]
instance trInh {α:Type} :Inhabited (Tr α):=⟨.nil⟩
def szX:Tr Tok->Int
 | .nil=>0
 | .node t ks=>min (szL t 1 ks) 100000
where szL (t:Tok) (acc:Int):List (Tr Tok)->Int
 | [] =>acc
 | k::ks=>szL t (acc+(if t.1=7 then (szX k+3)*t.2.2.2 else szX k)) ks
theorem o7 {x:Tr Tok} (h:WT x):1<=szX x/\szX x<=100000:=by
 refine WT.ind (p:=fun x=>1<=szX x/\szX x<=100000) ?_ ?_ ?_ h
 ·intro t _;show 1<=min (1:Int) 100000/\min (1:Int) 100000<=100000;omega
 ·intro t a e _ f;show 1<=min ((1:Int)+(if t.1=7 then (szX a+3)*t.2.2.2 else szX a)) 100000/\min ((1:Int)+(if t.1=7 then (szX a+3)*t.2.2.2 else szX a)) 100000<=100000;split
  ·rename_i k;have g:=DR (show 0<=ar t by omega) k
   have:0<=(szX a+3)*t.2.2.2:=Int.mul_nonneg (by omega) (by omega)
   omega
  ·omega
 ·intro t a b e _ _ c d;have k:t.1≠7:=by
   grind[oo,ar]
  show 1<=min ((1:Int)+(if t.1=7 then (szX a+3)*t.2.2.2 else szX a)+(if t.1=7 then (szX b+3)*t.2.2.2 else szX b)) 100000/\min ((1:Int)+(if t.1=7 then (szX a+3)*t.2.2.2 else szX a)+(if t.1=7 then (szX b+3)*t.2.2.2 else szX b)) 100000<=100000;omega
theorem Jr {a h:Int} (h1:1<=a/\a<=100000) (b:1<=h/\h<=3):i64.wrap ((i64.wrap (a+3))*h)=(a+3)*h:=by
 have c:0<=(a+3)*h:=Int.mul_nonneg (by omega) (by omega);have d:(a+3)*h<=100003*3:=Int.mul_le_mul (by omega) (by omega) (by omega) (by omega);grind[bd]
theorem RQ {a h:Int} (h1:1<=a/\a<=100000) (b:1<=h/\h<=3):0<=(a+3)*h/\(a+3)*h<=300009:=by
 have c:0<=(a+3)*h:=Int.mul_nonneg (by omega) (by omega);have d:(a+3)*h<=100003*3:=Int.mul_le_mul (by omega) (by omega) (by omega) (by omega);omega
theorem um {t:Tok} {a:List (Tr Tok)} :Tr.get (.node t a)=some (t,a):=rfl
theorem AK {f:Tr Tok->Option Int} {t:Tok} {a:List (Tr Tok)} {i:Nat} {acc:Int} (hi:i<a.length) (b:f (nth a (i:Int))=some (szX (nth a (i:Int)))) (h:WT (nth a (i:Int))) (g:0<=ar t) (j:0<=acc/\acc<=1000000) (e:i<=1000000) :
  eG f (.node t a) (t,a) (acc,(i:Int))=some (.nxt (acc+(if t.1=7 then (szX (nth a (i:Int))+3)*t.2.2.2 else szX (nth a (i:Int))),((i+1:Nat):Int))):=by
 unfold eG;simp only[um];have c:=o7 h;rw[if_pos (by grind),ai (by omega) (by omega)];simp only[aa];by_cases k:t.1=7
 ·have d:=DR g k;have l:=RQ c d.2;rw[if_pos (by grind),if_pos k,b];simp only[aa];rw[Jr c d.2,bd (by omega) (by omega),ae (by omega)]
 ·rw[if_neg (by grind),if_neg k,b];simp only[aa];rw[bd (by omega) (by omega),ae (by omega)]
theorem Cd {α:Type} [Inhabited α] {a:α} {l:List α} :nth (a::l) ((0:Nat):Int)=a:=rfl
theorem RR {α:Type} [Inhabited α] {a b:α} {l:List α} :nth (a::b::l) ((1:Nat):Int)=b:=rfl
theorem ZU {x:Tr Tok} (h:WT x): ∀n,(flat x).length<=n->dA n x=some (szX x):=by
 refine WT.ind (p:=fun x=> ∀n,(flat x).length<=n->dA n x=some (szX x)) ?_ ?_ ?_ h
 ·intro t e n c
  match n,c with
  | n+1,_ =>
   rfl
 ·intro t a e d m n c;rw[EY,au] at c
  match n,c with
  | n+1,c =>
   rw[dA];simp[um,aa];have l:ah (eG (dA n) (.node t [a]) (t,[a])) aR (1,0)=some (.brk (szX.szL t 1 [a],1)):=aQ (f:=eG (dA n) (.node t [a]) (t,[a])) (fun i=>(szX.szL t 1 ([a].take i),(i:Int))) 1 (fun i q=>by
    obtain rfl:i=0:=by omega
    exact AK (acc:=1) (i:=0) (by simp) (m n (by grind)) d (by omega) (by omega) (by omega)) (by rfl) (by unfold aR;omega)
   rw[af l]
   rfl
 ·intro t a b e d o g j n c;rw[zu,au,au] at c
  match n,c with
  | n+1,c =>
   have r:=o7 d;have k:t.1≠7:=by
    grind[oo,ar]
   rw[dA];simp[um,aa];have l:ah (eG (dA n) (.node t [a,b]) (t,[a,b])) aR (1,0)=some (.brk (szX.szL t 1 [a,b],2)):=aQ (f:=eG (dA n) (.node t [a,b]) (t,[a,b])) (fun i=>(szX.szL t 1 ([a,b].take i),(i:Int))) 2 (fun i q=>by
    have:i=0\/i=1:=by omega
    rcases this with rfl | rfl
    ·exact AK (acc:=1) (i:=0) (by simp) (g n (by grind)) d (by omega) (by omega) (by omega)
    ·exact AK (acc:=1+(if t.1=7 then (szX a+3)*t.2.2.2 else szX a)) (i:=1) (by simp) (j n (by grind)) o (by omega) (by omega) (by omega)) (by rfl) (by unfold aR;omega)
   rw[af l]
   rfl
theorem mm {A:List Tok} {t:Tok} (h:A.length<=1000000):aO (A++ [t]) (i64.wrap (((A++ [t]).length:Int) - 1))=some t/\i64.wrap (((A++ [t]).length:Int) - 1)=(A.length:Int):=by
 have e:i64.wrap (((A++ [t]).length:Int) - 1)=(A.length:Int):=by
  rw[bd (by omega) (by grind)];simp only[au,aw,aD];omega
 grind[ai,au,aw,aD,bJ]
theorem afg {t:Tok} (h:ar t=2):(if t.1==4 then (some (t.1==4)) else (some (t.1==5)):Option Bool)=some true:=by
 grind[oo,ar]
theorem VO {t:Tok} (h:ar t=1\/ar t=0):(if t.1==4 then (some (t.1==4)) else (some (t.1==5)):Option Bool)=some false:=by
 rcases oo (show 0<=ar t by omega) with ⟨e,k⟩ | ⟨e,k | k⟩ | ⟨e,k | k | k⟩
 ·omega
 all_goals simp[k]
theorem aca {t:Tok} (h:ar t=0):(t.1==6)=false/\(t.1==7)=false:=by
 grind[oo,ar]
theorem RS {t:Tok} (h:ar t=1):((t.1==6)=true/\t.1=6)\/((t.1==6)=false/\(t.1==7)=true/\t.1=7):=by
 grind[oo,ar]
theorem zx {a b:Tr Tok} {t:Tok} (d:WT b) (c:((flat a++flat b)++ [t]).length<=1000000) :
  (((flat a++flat b)++ [t]).take ((((flat a++flat b).length:Nat):Int)).toNat)=flat a++flat b /\
  kt (flat a++flat b)=some (((flat a).length:Nat):Int) /\
  (((flat a++flat b)++ [t]).take ((((flat a).length:Nat):Int)).toNat)=flat a /\
  (flat a++flat b).drop ((((flat a).length:Nat):Int)).toNat=flat b:=by
 grind[ZT,au,aw,aD,Int.toNat_natCast,List.take_left,aH,List.drop_left]
theorem Xo {x:Tr Tok} (h:WT x): ∀n,(flat x).length<=n->(flat x).length<=1000000->fL n (flat x)=some (szX x):=by
 refine WT.ind (p:=fun x=> ∀n,(flat x).length<=n->(flat x).length<=1000000->fL n (flat x)=some (szX x)) ?_ ?_ ?_ h
 ·intro t e n c d;rw[Ho] at c d⊢
  match n,c with
  | n+1,_ =>
   have s:=aca e;rw[fL]
   have:=(mm (A:=[]) (t:=t) (by simp)).1
   rw[List.nil_append] at this;rw[this];simp only[aa];rw[VO (.inr e)];simp[aa,s.1,s.2,Bool.false_eq_true,if_false]
   rfl
 ·intro t a e i z n c d;rw[EY] at c d⊢;simp[au,aw,aD] at c d
  match n,c with
  | n+1,c =>
   have u:=o7 i;rw[fL];have ⟨f,g⟩:=mm (A:=flat a) (t:=t) (by omega);rw[f];simp only[aa];rw[VO (.inl e)];simp only[aa,Bool.false_eq_true,if_false];rw[g,Int.toNat_natCast,List.take_left,kT (by grind)];simp only[aa];rw[z n (by omega) (by omega)];simp only[aa];rcases RS e with ⟨m,o⟩ | ⟨m,o,C⟩
   ·rw[if_pos m,bd (by omega) (by omega)];show some (min 100000 (szX a+1))=some (min ((1:Int)+(if t.1=7 then (szX a+3)*t.2.2.2 else szX a)) 100000);grind
   ·have q:=DR (show 0<=ar t by omega) C;have F:=RQ u q.2;rw[if_neg (by grind),if_pos o,Jr u q.2,bd (by omega) (by omega)];show some (min 100000 ((szX a+3)*t.2.2.2+1))=some (min ((1:Int)+(if t.1=7 then (szX a+3)*t.2.2.2 else szX a)) 100000);grind
 ·intro t a b e i r j l n c d;rw[zu] at c d⊢;have ⟨D,v,y,w⟩:=zx (a:=a) (t:=t) r d;simp[au,aw,aD] at c d
  match n,c with
  | n+1,c =>
   have E:=o7 i;have B:=o7 r;have k:t.1≠7:=by
    rcases oo (show 0<=ar t by omega) with ⟨_,k⟩ | ⟨k,_⟩ | ⟨k,_⟩ <;> omega
   rw[fL];have ⟨f,g⟩:=mm (A:=flat a++flat b) (t:=t) (by grind);rw[f];simp only[aa];rw[afg e];rw[g,D,v,kT (by grind)];simp only[aa];rw[kT (by grind),y,w];rw[j n (by omega) (by omega),kT (by simp[au,aw,aD];omega)];rw[l n (by omega) (by omega)];simp only[aa];rw[bd (n:=szX a+szX b) (by omega) (by omega),bd (by omega) (by omega)];show some (min 100000 (szX a+szX b+1))=some (min ((1:Int)+(if t.1=7 then (szX a+3)*t.2.2.2 else szX a)+(if t.1=7 then (szX b+3)*t.2.2.2 else szX b)) 100000);grind
def VP:Tr Tok:=.node (2,0,0,0) []
def ON (x:Tr Tok):Nat->Int->Tr Tok
 | 0,_=>VP
 | h+1,low=>if 0<low then .node (4,0,0,0) [x,ON x h (max 0 (low - 1))] else .node (5,0,0,0) [.node (4,0,0,0) [x,ON x h (max 0 (low - 1))],VP]
mutual
def AL:Tr Tok->Tr Tok
 | .nil=>.nil
 | .node t ks=>if t.1=7 then ON ((acb ks).headD .nil) t.2.2.2.toNat t.2.2.1 else .node t (acb ks)
def acb:List (Tr Tok)->List (Tr Tok)
 | [] =>[]
 | k::ks=>AL k::acb ks
end
theorem ar4:ar (4,0,0,0)=2:=by decide
theorem ar5:ar (5,0,0,0)=2:=by decide
theorem ar2:ar (2,0,0,0)=0:=by decide
theorem RT:WT VP:=.node ar2 fun k a=>by cases a
theorem DU:flat VP= [(2,0,0,0)]:=Ho _
theorem WT.two {t:Tok} {a b:Tr Tok} (h:ar t=2) (c:WT a) (e:WT b):WT (.node t [a,b]):=.node h fun k d=>by
 grind
theorem WT.one {t:Tok} {a:Tr Tok} (h:ar t=1) (b:WT a):WT (.node t [a]):=.node h fun k c=>by
 grind
theorem Ld {x:Tr Tok} (a:WT x): ∀(h:Nat) (low:Int),WT (ON x h low)
 | 0,_=>RT
 | h+1,low=>by
  rw[ON];split
  ·exact .two ar4 a (Ld a h _)
  ·exact .two ar5 (.two ar4 a (Ld a h _)) RT
theorem Hs (x:Tr Tok): ∀(h:Nat) (low:Int),(flat (ON x h low)).length<=((flat x).length+3)*h+1
 | 0,_=>by rw[ON,DU];simp
 | h+1,low=>by
  have a:=Hs x h (max 0 (low - 1));grind[ON,zu,au,aw,aD,Nat.mul_succ,DU]
theorem adA {t:Tok} {a:Tr Tok} :AL (.node t [a])=if t.1=7 then ON (AL a) t.2.2.2.toNat t.2.2.1 else .node t [AL a]:=by rfl
theorem exp2 {t:Tok} {a b:Tr Tok} (h:t.1≠7):AL (.node t [a,b])= .node t [AL a,AL b]:=by simp_all[AL,if_neg,acb]
theorem adB {t:Tok} (h:t.1≠7):AL (.node t [])= .node t []:=by rw[AL,if_neg h,acb]
theorem no7 {t:Tok} (h:ar t=2\/ar t=0):t.1≠7:=by
 grind[oo,ar]
theorem Xp {x:Tr Tok} (h:WT x):WT (AL x):=by
 refine WT.ind (p:=fun x=>WT (AL x)) ?_ ?_ ?_ h
 ·intro t e;rw[adB (no7 (.inr e))];exact .node e fun k g=>by cases g
 ·intro t a e _ f;rw[adA];split
  ·exact Ld f _ _
  ·exact .one e f
 ·intro t a b e _ _ c d;rw[exp2 (no7 (.inl e))];exact .two e c d
theorem DV {x:Tr Tok} (h:WT x):szX x<100000->((flat (AL x)).length:Int)<=szX x:=by
 refine WT.ind (p:=fun x=>szX x<100000->((flat (AL x)).length:Int)<=szX x) ?_ ?_ ?_ h
 ·intro t e _;rw[adB (no7 (.inr e)),Ho];show (1:Int)<=min 1 100000;omega
 ·intro t a e i o f;have d:min ((1:Int)+(if t.1=7 then (szX a+3)*t.2.2.2 else szX a)) 100000<100000:=f;show _<=min ((1:Int)+(if t.1=7 then (szX a+3)*t.2.2.2 else szX a)) 100000;rw[adA];by_cases k:t.1=7
  ·have g:=DR (show 0<=ar t by omega) k;have j:szX a+3<=(szX a+3)*t.2.2.2:=by
    have:=Int.mul_le_mul_of_nonneg_left (c:=szX a+3) g.2.1 (by omega)
    omega
   have n:=Hs (AL a) t.2.2.2.toNat t.2.2.1;have r:(((flat (AL a)).length+3)*t.2.2.2.toNat:Int)<=(szX a+3)*t.2.2.2:=by
    rw[Int.toNat_of_nonneg (by omega)];exact Int.mul_le_mul_of_nonneg_right (by omega) (by omega)
   grind
  ·rw[if_neg k,EY];grind
 ·intro t a b e i q l m f;have k:=no7 (.inl e);have d:min ((1:Int)+(if t.1=7 then (szX a+3)*t.2.2.2 else szX a)+(if t.1=7 then (szX b+3)*t.2.2.2 else szX b)) 100000<100000:=f;show _<=min ((1:Int)+(if t.1=7 then (szX a+3)*t.2.2.2 else szX a)+(if t.1=7 then (szX b+3)*t.2.2.2 else szX b)) 100000;grind[exp2,zu,au,aw,aD]
theorem FQ {x:Tr Tok} : ∀(h n:Nat) (low:Int),h<n->h<=3->0<=low->low<=3->oR n x low (h:Int)=some (ON x h low)
 | 0,n+1,low,_,_,_,_=>by
  rfl
 | h+1,n+1,low,h1,h2,h3,h4=>by
  rw[oR,if_neg (by grind),bd (n:=low - 1) (by omega) (by omega),bd (n:=((h+1:Nat):Int) - 1) (by omega) (by omega)];rw[show ((h+1:Nat):Int) - 1=(h:Int) from by omega,FQ h n (max 0 (low - 1)) (by omega) (by omega) (by omega) (by omega)];simp[aa];rw[ON];by_cases c:0<low
  ·grind
  ·rw[if_neg (by grind),if_neg c];rfl
theorem DW {a b:List Tok} {t:Tok} (h:a.length+b.length<=1000000):fH a b t=some ((a++b)++ [t]):=by
 unfold fH gm;rw[al (by simp[au,aw,aD];omega)];simp only[aa,List.nil_append];rw[al (by omega)];simp only[aa];rw[al (by simp[au,aw,aD];omega)];rfl
theorem RU {x:Tr Tok} : ∀(h n:Nat) (low:Int),h<n->h<=3->0<=low->low<=3->(flat x).length<=100000->oN n (flat x) low (h:Int)=some (flat (ON x h low))
 | 0,n+1,low,_,_,_,_,_=>by
  rfl
 | h+1,n+1,low,h1,h2,h3,h4,h5=>by
  rw[oN,if_neg (by grind),bd (n:=low - 1) (by omega) (by omega),bd (n:=((h+1:Nat):Int) - 1) (by omega) (by omega)];rw[show ((h+1:Nat):Int) - 1=(h:Int) from by omega,RU h n (max 0 (low - 1)) (by omega) (by omega) (by omega) (by omega) h5];simp only[aa];have b:=Hs x h (max 0 (low - 1));have a:((flat x).length+3)*h<=100003*3:=Nat.mul_le_mul (by omega) (by omega);rw[DW (by omega),ON];simp only[aa];by_cases c:0<low
  ·simp_all[if_pos,zu]
  ·rw[if_neg (by grind),if_neg c,zu,zu,DU];unfold su;simp only[aa];rw[DW (by simp[au,aw,aD];omega)];rfl
theorem qQ:1000000000000<=gj:=by rw[T2];unfold aR;omega
theorem VQ {x:Tr Tok} (h:WT x): ∀n,(flat x).length<=n->cT n x=some (AL x):=by
 have w:=qQ;refine WT.ind (p:=fun x=> ∀n,(flat x).length<=n->cT n x=some (AL x)) ?_ ?_ ?_ h
 ·intro t e n c;have k:=no7 (.inr e)
  match n,c with
  | n+1,_ =>
   rw[cT];simp[um,aa];rw[if_neg (by grind),adB k]
   rfl
 ·intro t a e s q n c;rw[EY,au] at c
  match n,c with
  | n+1,c =>
   have d:=q n (by grind);rw[cT,adA];simp only[um,aa];rcases RS e with ⟨o,l⟩ | ⟨o,l,m⟩
   ·have u:=aQ (f:=fg (cT n) (t,[a])) (fun i=>((i:Int),t.1,t.2.1,t.2.2.1,t.2.2.2,[AL a].take i)) 1 (fun i v=>by
     obtain rfl:i=0:=by omega
     unfold fg;rw[if_pos (by simp),ai (by omega) (by simp),Cd];simp[aa];rw[d];rfl) (by rfl) (by unfold aR;omega)
    grind[af]
   ·have y:=DR (show 0<=ar t by omega) m;rw[if_pos l,if_pos m,show aO [a] 0=some a from rfl];simp only[aa];rw[d];simp only[aa]
    have:=FQ (x:=AL a) t.2.2.2.toNat gj t.2.2.1 (by omega) (by omega) (by omega) (by omega)
    rw[Int.toNat_of_nonneg (by omega)] at this;rw[this];rfl
 ·intro t a b e s z g j n c;rw[zu,au,au] at c;have k:=no7 (.inl e)
  match n,c with
  | n+1,c =>
   have d:=g n (by grind);have r:=j n (by grind);rw[cT,exp2 k];simp[um,aa];have u:=aQ (f:=fg (cT n) (t,[a,b])) (fun i=>((i:Int),t.1,t.2.1,t.2.2.1,t.2.2.2,[AL a,AL b].take i)) 2 (fun i v=>by
    have:i=0\/i=1:=by omega
    rcases this with rfl | rfl
    ·unfold fg;rw[if_pos (by simp),ai (by omega) (by simp),Cd];simp[aa];rw[d];rfl
    ·unfold fg;rw[if_pos (by simp),ai (by omega) (by simp),RR];simp[aa];rw[r];rfl) (by rfl) (by unfold aR;omega)
   grind[af]
theorem RV {x:Tr Tok} (h:WT x): ∀n out,(flat x).length<=n->out.length+(flat x).length<=1000000->cA n x out=some (out++flat x):=by
 refine WT.ind (p:=fun x=> ∀n out,(flat x).length<=n->out.length+(flat x).length<=1000000->cA n x out=some (out++flat x)) ?_ ?_ ?_ h
 ·intro t e n out c d;rw[Ho] at c d⊢
  match n,c with
  | n+1,_ =>
   rw[cA];simp[um,aa];have k:=aQ (f:=dF (cA n) (t,[])) (fun i=>((i:Int),out)) 0 (fun i l=>by omega) (by rfl) (by unfold aR;omega);grind[af,al]
 ·intro t a e o m n out c d;rw[EY] at c d⊢;simp[au,aw,aD] at c d
  match n,c with
  | n+1,c =>
   rw[cA];simp[um,aa];have k:=aQ (f:=dF (cA n) (t,[a])) (fun i=>((i:Int),if i=0 then out else out++flat a)) 1 (fun i l=>by
    obtain rfl:i=0:=by omega
    unfold dF;rw[if_pos (by simp),ai (by omega) (by simp),Cd];simp[aa,if_true];rw[m n _ (by omega) (by omega)];rfl) (by rfl) (by unfold aR;omega)
   grind[af,al]
 ·intro t a b e o q g j n out c d;rw[zu] at c d⊢;simp[au,aw,aD] at c d
  match n,c with
  | n+1,c =>
   rw[cA];simp[um,aa];have k:=aQ (f:=dF (cA n) (t,[a,b])) (fun i=>((i:Int),if i=0 then out else if i=1 then out++flat a else (out++flat a)++flat b)) 2 (fun i l=>by
    have:i=0\/i=1:=by omega
    rcases this with rfl | rfl
    ·unfold dF;rw[if_pos (by simp),ai (by omega) (by simp),Cd];simp[aa,if_true];rw[g n _ (by omega) (by omega)];rfl
    ·unfold dF;rw[if_pos (by simp),ai (by omega) (by simp),RR];simp only[aa,if_true];rw[j n _ (by omega) (by grind)];rfl) (by rfl) (by unfold aR;omega)
   grind[af,al]
theorem M0 {x:Tr Tok} (h:WT x): ∀n,(flat x).length<=n->(flat x).length<=1000000->szX x<=50000->dS n (flat x)=some (flat (AL x)):=by
 have K:=qQ;refine WT.ind (p:=fun x=> ∀n,(flat x).length<=n->(flat x).length<=1000000->szX x<=50000->dS n (flat x)=some (flat (AL x))) ?_ ?_ ?_ h
 ·intro t e n d f j;rw[Ho] at d f⊢
  match n,d with
  | n+1,_ =>
   have L:=aca e;rw[dS]
   have:=(mm (A:=[]) (t:=t) (by simp)).1
   rw[List.nil_append] at this;rw[this];simp only[aa];rw[VO (.inr e)];simp_all[aa,Bool.false_eq_true,if_false,adB,no7,Ho]
 ·intro t a e i E n d f j;have g:min ((1:Int)+(if t.1=7 then (szX a+3)*t.2.2.2 else szX a)) 100000<=50000:=j;rw[EY] at d f⊢;simp[au,aw,aD] at d f
  match n,d with
  | n+1,d =>
   have M:=o7 i;have q:szX a<=50000:=by
    by_cases k:t.1=7
    ·rw[if_pos k] at g;have y:=DR (show 0<=ar t by omega) k;have G:szX a+3<=(szX a+3)*t.2.2.2:=by
      have:=Int.mul_le_mul_of_nonneg_left (c:=szX a+3) y.2.1 (by omega)
      omega
     omega
    ·omega
   have o:=DV i (by omega);rw[dS];have ⟨l,m⟩:=mm (A:=flat a) (t:=t) (by omega);rw[l];simp only[aa];rw[VO (.inl e)];simp only[aa,Bool.false_eq_true,if_false];rw[m,Int.toNat_natCast,List.take_left,kT (by grind)];simp only[aa];rw[E n (by omega) (by omega) q,adA];simp only[aa];rcases RS e with ⟨v,w⟩ | ⟨v,w,z⟩
   ·rw[if_pos v,if_neg (by omega),DW (by grind),EY];simp
   ·have y:=DR (show 0<=ar t by omega) z;rw[if_neg (by grind),if_pos w,if_pos z];grind[RU,AL,gj,Int.toNat_of_nonneg]
 ·intro t a b e i r s u n d f j;have k:=no7 (.inl e);have g:min ((1:Int)+(if t.1=7 then (szX a+3)*t.2.2.2 else szX a)+(if t.1=7 then (szX b+3)*t.2.2.2 else szX b)) 100000<=50000:=j;rw[if_neg k,if_neg k] at g;rw[zu] at d f⊢;have ⟨I,B,D,C⟩:=zx (a:=a) (t:=t) r f;simp[au,aw,aD] at d f
  match n,d with
  | n+1,d =>
   have J:=o7 i;have F:=o7 r;have o:=DV i (by omega);have H:=DV r (by omega);rw[dS];have ⟨l,m⟩:=mm (A:=flat a++flat b) (t:=t) (by grind);rw[l];simp only[aa];rw[afg e];simp only[aa,if_true];rw[m,I,B,kT (by grind)];simp only[aa];rw[kT (by grind),D,C];simp only[aa];rw[s n (by omega) (by omega) (by omega),kT (by grind)];simp only[aa];rw[u n (by omega) (by omega) (by omega)];simp only[aa];rw[DW (by omega),exp2 k,zu];rfl
def M2 (e:List Tok):List Tok×Bool:=
 if decide (e.length<=24)&&isX e then (if 5000<szX (BU e) then ([],false) else (if 400<(flat (AL (BU e))).length then ([],false) else (flat (AL (BU e)),true))) else ([],false)
theorem Le {e:List Tok} (b:e.length<=1048576):jO e=some (M2 e)/\oG e=some (M2 e):=by
 have h:=qQ;unfold jO oG M2;rw[DT b,Lc b];simp only[aa];by_cases c:(decide (e.length<=24)&&isX e)=true
 ·rw[if_pos c,if_pos c,if_pos c,Hr b];simp[aa];rw[aj] at c;obtain ⟨x,f,a,rfl⟩:=MZ c.2;have d:(flat x).length<=24:=by simpa using c.1
  rw[wt a,Xo a gj (by omega) (by omega),ZU a gj (by omega)];by_cases i:5000<szX x
  ·grind
  ·have g:=DV a (by omega);rw[M0 a gj (by omega) (by omega) (by omega),VQ a gj (by omega)];simp[aa];unfold tx;rw[RV (Xp a) gj [] (by omega) (by grind)];grind
 grind
theorem RW {e:List Tok} (h:(M2 e).2=true): ∃y,WT y/\(M2 e).1=flat y/\(flat y).length<=400:=by
 unfold M2 at h⊢;split at h
 ·rename_i c;rw[aj] at c;obtain ⟨x,b,a,rfl⟩:=MZ c.2;rw[wt a] at h⊢;split at h
  ·cases h
  ·split at h
   ·cases h
   ·grind[Xp]
 grind
def RX (out:List Bool) (t:Int):Bool:=decide (t≥0)&&nth out t
def hit (out:List Bool) (row:List Int):Bool:=row.any (RX out)
def Bq (a:AutT) (out:List Bool) (s:Nat):List Bool:=if hit out (nth a.2.2 s) then out.set s true else out
def nE (a:AutT) (out:List Bool):Nat->List Bool
 | 0=>out
 | s+1=>Bq a (nE a out s) s
def cnt (out:List Bool):Nat:=out.count true
theorem acd (out:List Bool):cnt out<=out.length:=List.count_le_length
theorem M3 {out:List Bool} {s:Nat} (h:s<out.length) (k:out[s] =true):out.set s true=out:=by
 refine List.ext_getElem (by simp) fun i a b=>?_;grind
theorem ZV {out:List Bool} {s:Nat} (h:s<out.length) (k:out[s] =false):cnt (out.set s true)=cnt out+1:=by
 unfold cnt;rw[List.count_set h];simp[k]
section
variable {a:AutT} {n:Nat}
theorem Ht (a:AutT) (out:List Bool) (s:Nat):(Bq a out s).length=out.length:=by grind[Bq]
theorem nF (a:AutT) (out:List Bool): ∀s,(nE a out s).length=out.length
 | 0=>rfl
 | s+1=>by rw[nE,Ht,nF a out s]
theorem Br {out:List Bool} {s:Nat} (h:s<out.length):(Bq a out s=out/\ ¬(hit out (nth a.2.2 s)=true/\nth out s=false))\/(cnt (Bq a out s)=cnt out+1/\hit out (nth a.2.2 s)=true/\nth out s=false):=by
 grind[Bq,bJ,hit,nth,M3,ZV]
theorem AM {out:List Bool} : ∀s,s<=out.length->(nE a out s=out/\cnt (nE a out s)=cnt out)\/cnt out<cnt (nE a out s)
 | 0,_=>.inl ⟨rfl,rfl⟩
 | s+1,hs=>by
  have c:s<(nE a out s).length:=by rw[nF];omega
  have b:=AM (out:=out) s (by omega);grind[nE,Br]
def it (a:AutT):Nat->List Bool
 | 0=>a.2.1
 | j+1=>nE a (it a j) a.2.1.length
theorem sW (a:AutT): ∀j,(it a j).length=a.2.1.length
 | 0=>rfl
 | j+1=>by rw[it,nF,sW a j]
theorem Xq (a:AutT) (j:Nat):cnt (it a j)<=a.2.1.length:=by grind[sW,acd]
theorem Lf (a:AutT) (j:Nat):(it a (j+1)=it a j)\/cnt (it a j)<cnt (it a (j+1)):=by
 rcases AM (a:=a) (out:=it a j) a.2.1.length (by rw[sW];omega) with h | h
 ·exact .inl h.1
 ·exact .inr h
theorem ace {j k:Nat} (h:it a (j+1)=it a j) (b:j<=k):it a k=it a j:=by
 induction b with
 | refl=>rfl
 | step _ ih=>rw[it,ih];exact h
theorem RY {j k:Nat} (h:it a (j+1)=it a j) (b:it a (k+1)=it a k):it a j=it a k:=by
 grind[Nat.le_total,ace]
theorem ZW (a:AutT):it a (a.2.1.length+1)=it a a.2.1.length:=by
 have key: ∀j,it a (j+1)=it a j\/j+1<=cnt (it a (j+1)):=by
  intro j;induction j with
  | zero=>grind[Lf]
  | succ j ih =>
   grind[Lf,it]
 grind[Xq]
def live (a:AutT):List Bool:=it a a.2.1.length
theorem yc (a:AutT):(live a).length=a.2.1.length:=sW a _
theorem M4 {α:Type} [Inhabited α] {row:List α} {p:α->Bool} {k:Nat} (h:k<row.length):(row.take (k+1)).any p=((row.take k).any p || p (nth row (k:Int))):=by
 rw[List.take_succ_eq_append_getElem h,List.any_append,bJ h];simp
section
variable (V:VA a n) (hn:n<=1000000)
include V hn
theorem RZ {out:List Bool} {s:Nat} (hs:s<n) (g:out.length=n):ah (oz a (out,(s:Int))) aR (out,0)=some (.brk (Bq a out s,9)):=by
 have i:=V.rowAt (s:=s) (by omega) (by omega)
 have:=aQ (f:=oz a (out,(s:Int))) (fun k=>(if ((nth a.2.2 (s:Int)).take k).any (RX out) then out.set s true else out,(k:Int))) 9 (fun k b=>by
  unfold oz;rw[if_pos (by grind),V.get (by omega) (by omega)];simp only[aa];rw[V.get2 (by omega) (by omega) b];rw[M4 (by omega),show nth (nth a.2.2 (s:Int)) (k:Int)=mv a s k from rfl];simp only[ae (show k<9223372036854775807 by omega)];by_cases c:mv a s k≥0
  ·have d:=(V.mv (s:=s) (k:=k) (by omega) (by omega) b).2;by_cases q:((nth a.2.2 (s:Int)).take k).any (RX out)=true
   ·simp_all[if_true,Bool.true_or,ai,aa,Int.toNat_natCast]
   ·simp[q,Bool.false_eq_true,if_false,Bool.false_or,RX];rw[ai c (by rw[g];exact d),ai (by omega) (by omega)];cases h:nth out (mv a s k) <;> simp[h,c]
  ·simp[RX,c]) (by rfl) (by unfold aR;omega)
 have e:(nth a.2.2 (s:Int)).take 9=nth a.2.2 (s:Int):=List.take_of_length_le (by omega);rw[e] at this;exact this
theorem Js {out:List Bool} (c:out.length=n):ah (lL a) aR (out,0)=some (.brk (nE a out n,(n:Int))):=by
 have b:=V.len;refine aQ (f:=lL a) (fun s=>(nE a out s,(s:Int))) n (fun s d=>?_) ?_ (mB (by omega))
 ·unfold lL;rw[if_pos (by grind),af (RZ V hn d (by rw[nF];exact c)),ae (by omega)]
  rfl
 simp_all[lL,if_neg]
theorem Xr:nS a=some (live a):=by
 have b:=V.len;unfold nS;rw[al (by grind)];have:=aQ (f:=oA a) (fun j=>(it a j,(j:Int))) n (fun j c=>by
  unfold oA;rw[if_pos (by grind),af (Js V hn (by grind[sW])),ae (by omega),it,b]) (by
  simp_all[oA,if_neg]) (mB (by omega))
 exact (af this).trans (by simp[live,b])
theorem R0 {out:List Bool} {g:Bool} {s:Nat} (hs:s<n) (j:out.length=n):ah (eY (g,(s:Int),out) (nth a.2.2 (s:Int))) aR (g,0,out)=some (.brk (g || (hit out (nth a.2.2 (s:Int)) && !nth out (s:Int)),9,Bq a out s)):=by
 have o:=V.rowAt (s:=s) (by omega) (by omega);have b:s<out.length:=by omega
 have:=aQ (f:=eY (g,(s:Int),out) (nth a.2.2 (s:Int))) (fun k=>(g || (((nth a.2.2 (s:Int)).take k).any (RX out) && !nth out (s:Int)),(k:Int),if ((nth a.2.2 (s:Int)).take k).any (RX out) then out.set s true else out)) 9 (fun k d=>by
  unfold eY;rw[if_pos (by grind),V.get2 (by omega) (by omega) d];rw[M4 (by omega),show nth (nth a.2.2 (s:Int)) (k:Int)=mv a s k from rfl];simp only[ae (show k<9223372036854775807 by omega)];by_cases c:mv a s k≥0
  ·have h:=(V.mv (s:=s) (k:=k) (by omega) (by omega) d).2;by_cases q:((nth a.2.2 (s:Int)).take k).any (RX out)=true
   ·simp[q,if_true,Bool.true_or];simp_all[nth,ru,ai,aa,Int.toNat_natCast,if_true]
   ·simp[q,Bool.false_eq_true,if_false,Bool.false_or,RX,Bool.false_and,Bool.or_false];rw[ai c (by rw[j];exact h),ai (by omega) (by omega)];cases m:nth out (mv a s k) with
    | false=>simp[c]
    | true =>
     cases e:nth out (s:Int) with
     | false=>simp[c]
     | true =>
      rw[bJ b] at e;simp[c,M3 b e]
  ·simp[RX,c]) (by grind[eY]) (by unfold aR;omega)
 have i:(nth a.2.2 (s:Int)).take 9=nth a.2.2 (s:Int):=List.take_of_length_le (by omega);rw[i] at this;have l:(g || (((nth a.2.2 (s:Int)).take 0).any (RX out) && !nth out (s:Int)))=g:=by simp
 rw[l] at this;exact this
theorem Jt {out:List Bool} (h:out.length=n): ∃g,ah (eZ a) aR (false,0,out)=some (.brk (g,(n:Int),nE a out n))/\(g=true↔cnt out<cnt (nE a out n)):=by
 have j:=V.nlen;obtain ⟨k,e,⟨g,rfl,d⟩⟩:=fb (f:=eZ a) (fun s c=> ∃g,c=(g,(s:Int),nE a out s)/\(g=true↔cnt out<cnt (nE a out s))) n (by
  rintro s c i ⟨g,rfl,d⟩;have b:(nE a out s).length=n:=by rw[nF];exact h
  unfold eZ;simp only;rw[if_pos (by grind),V.get (by omega) (by omega)];simp only[aa];rw[af (R0 V hn i b),ae (by omega)];refine ⟨_,rfl,_,rfl,?_⟩;grind[AM,Br,nE,id,absurd]) (by
  simp_all[eZ,if_neg]) ⟨false,rfl,by simp[nE]⟩ (mB (by omega))
 exact ⟨g,e,d⟩
theorem acf:gO a=some (live a):=by
 have c:=V.len;unfold gO;rw[al (by grind)];obtain ⟨o,e,i,rfl,k⟩:=bW (f:=kJ a) (fun i s=> ∃b,s=(b,it a i)/\(b=true->i<=cnt (it a i))/\(b=false->it a (i+1)=it a i)) (fun o=> ∃i,o= .brk (false,it a i)/\it a (i+1)=it a i) (n+1) (s:=(true,a.2.1)) (by
  rintro i s k ⟨b,rfl,d,m⟩;unfold kJ;cases b with
  | false=>grind
  | true =>
   have p:=Xq a i;have d:=d rfl;have ⟨g,e,j⟩:=Jt V hn (out:=it a i) (by grind[sW]);have l:nE a (it a i) n=it a (i+1):=by rw[it,c]
   rw[l] at e j;refine .inl ⟨by omega,(g,it a (i+1)),by rw[if_pos rfl,af e],g,rfl,fun h=>?_,fun h=>?_⟩
   ·grind
   grind[it,Lf]) ⟨true,rfl,fun _=>Nat.zero_le _,fun h=>by cases h⟩ (mB (by omega))
 grind[af,RY,ZW,live]
end
end
def nothing:AutT:=(0,[false],[[-1,-1,-1,-1,-1,-1,-1,-1,-1]])
theorem R1:rJ=some nothing:=by kernel_rfl
theorem R2:xD=some nothing:=by kernel_rfl
theorem R3 {n:Nat} (h:n<=1000000):iOk (n:Int)=true:=by
 have a:i64.min= -9223372036854775808:=by decide
 have b:i64.max=9223372036854775807:=by decide
 simp[iOk,Lit.wf,a,b,aj,decide_eq_true_eq];omega
theorem take_one {α:Type} [Inhabited α] {xs:List α} {k:Nat} (h:k<xs.length):xs.take (k+1)=xs.take k++ [nth xs (k:Int)]:=by
 rw[List.take_succ_eq_append_getElem h,bJ h]
theorem mO {α:Type} [Inhabited α] {xs ys:List α} (h:xs <+:ys) {i:Int} (a:0<=i) (h1:i<xs.length):nth ys i=nth xs i:=by
 obtain ⟨t,rfl⟩:=h;exact dB a h1
structure NumOk {κ:Type} [DecidableEq κ] (nx:κ->List (Option κ)) (first:κ) (G:κ->Prop) (B:Nat):Prop where
 g0:G first
 gn: ∀x,G x-> ∀y,some y∈nx x->G y
 len: ∀x,G x->(nx x).length=9
 bound: ∀l:List κ,l.Nodup->(∀x∈l,G x)->l.length<=B
section
variable {κ:Type} [DecidableEq κ] [Inhabited κ] {nx:κ->List (Option κ)} {first:κ} {G:κ->Prop} {B:Nat}
theorem NumOk.le (H:NumOk nx first G B) (i:Nat):(bfS nx first i).length<=B:=H.bound _ (qP i) (nD H.g0 H.gn i)
theorem NumOk.at (H:NumOk nx first G B) {i:Nat} (h:i<(bfS nx first i).length):G (nth (bfS nx first i) (i:Int)):=nD H.g0 H.gn i _ (bG (by omega) (by omega))
theorem nG {i:Nat} (h:i<(bfS nx first i).length):bfS nx first (i+1)=nbS (bfS nx first i) (nx (nth (bfS nx first i) (i:Int))):=by rw[Hn h,bJ h]
theorem zy {i:Nat} (h:i<(bfS nx first i).length):bfR nx first (i+1)=bfR nx first i++ [nbR (bfS nx first i) (nx (nth (bfS nx first i) (i:Int)))]:=by rw[zq h,bJ h]
theorem Ce {β:Type} {acc:κ->β} {i:Nat} (h:i<(bfS nx first i).length):((bfS nx first (i+1)).take (i+1)).map acc=((bfS nx first i).take i).map acc++ [acc (nth (bfS nx first i) (i:Int))]:=by
 have hp:=cd (nx:=nx) (first:=first) i;have a:=hp.length_le;have e:(bfS nx first (i+1)).take i=(bfS nx first i).take i:=by
  have ⟨t,b⟩:=hp;grind
 rw[take_one (by omega),aX,e,mO hp (by omega) (by omega)];rfl
def MapOf (M:List (κ×Int)) (l:List κ):Prop:=M.length=l.length/\ ∀x,M.lookup x=if x∈l then some (l.idxOf x:Int) else none
theorem MapOf.one (x:κ):MapOf [(x,0)] [x]:=by
 refine ⟨rfl,fun y=>?_⟩;grind
theorem MapOf.put {M:List (κ×Int)} {l:List κ} (h:MapOf M l) {x:κ} (a:x∉l):MapOf ((x,(l.length:Int))::M) (l++ [x]):=by
 refine ⟨by simp[h.1],fun y=>?_⟩;rw[List.lookup_cons];by_cases e:y=x
 ·grind
 ·simp[show (y==x)=false from by simp[e],h.2 y,List.mem_append,List.mem_singleton,e,or_false];grind
end
section
variable {nx:Int->List (Option Int)} {first:Int} {G:Int->Prop} {B:Nat}
theorem Ju {p3:Int->Int->Option (Int×Bool)} {l:List Int} {M:List (Int×Int)} {os:List (Option Int)} {acs:List Bool} {rws:List (List Int)} {i:Nat}
  (hi:i<l.length) (w:os.length=9) (t:MapOf M l) (n: ∀y,some y∈os->iOk y=true) (v: ∀k,(nbS l (os.take k)).length<=1000000)
  (hp: ∀(k:Nat) (p:k<9),∃j,p3 (nth l (i:Int)) (k:Int)=some (match nth os (k:Int) with | some y=>(y,true) | none=>(j,false))) :
  ∃g,ah (fQ p3 (l,M,(i:Int),0,acs,rws)) aR (l,M,[],0)=some (.brk (nbS l os,g,nbR l os,9))/\MapOf g (nbS l os):=by
 obtain ⟨A,e,g,rfl,q⟩:=fb (f:=fQ p3 (l,M,(i:Int),0,acs,rws)) (fun k s=> ∃g,s=(nbS l (os.take k),g,nbR l (os.take k),(k:Int))/\MapOf g (nbS l (os.take k))) 9 (by
  rintro k s p ⟨d,rfl,a⟩;have b:=om l (os.take k);have o:=b.length_le;have m:=v k;have ⟨j,x⟩:=hp k p;have r:(nbR l (os.take k)).length<=9:=by rw[jR,az];omega
  unfold fQ;simp only;rw[if_pos (by grind),ai (by omega) (by omega)];simp only[aa];rw[mO b (by omega) (by omega),x,take_one (by omega),zp,wq];simp only[aa,ae (show k<9223372036854775807 by omega)];cases u:nth os (k:Int) with
  | none =>
   simp only[Bool.false_eq_true,if_false];rw[al (by grind)];exact ⟨_,rfl,d,rfl,a⟩
  | some y =>
   have z:=n y (u ▸ bG (by omega) (by omega));rw[show chk (iOk y=true)=some () from by unfold chk;grind];rw[show lkM d y=_ from a.2 y];by_cases c:y∈nbS l (os.take k)
   ·simp only[c,if_true,Option.isSome_some,Option.getD_some,aa];rw[al (by grind)];exact ⟨_,rfl,d,by rw[po c];rfl,by grind[po]⟩
   ·have h:TA d iOk iOk y ((nbS l (os.take k)).length:Int)=some ((y,((nbS l (os.take k)).length:Int))::d):=by
     unfold TA;rw[if_pos ⟨by have:=a.1;omega,z,R3 m⟩]
    simp only[c,if_false,Option.isSome_none,Bool.false_eq_true,h,aa];rw[al (by grind)];simp only[aa];rw[al (by grind)];refine ⟨_,rfl,(y,((nbS l (os.take k)).length:Int))::d,?_,?_⟩
    ·grind[pq,nbI,sU]
    ·rw[pq c];exact a.put c) (by
  grind[fQ]) (s:=(l,M,[],0)) ⟨M,rfl,t⟩ (by unfold aR;omega)
 grind
theorem acg {most:Int} {p2:Int->Option Bool} {p3:Int->Int->Option (Int×Bool)} {acc:Int->Bool} (H:NumOk nx first G B) (A:B<=1000000) (m:(B:Int)<=most) (h: ∀x,G x->iOk x=true)
  (r: ∀x,G x->p2 x=some (acc x)) (u: ∀x (k:Nat),G x->k<9-> ∃j,p3 x (k:Int)=some (match nth (nx x) (k:Int) with | some y=>(y,true) | none=>(j,false))) :
  ∃N,bfE nx first N/\gB first most p2 p3=some ((0,(bfS nx first N).map acc,bfR nx first N),true):=by
 have ⟨N,q,c⟩:=Xm (nx:=nx) (first:=first) (H.le);refine ⟨N,c,?_⟩;unfold gB;rw[show TA ([] :List (Int×Int)) iOk iOk first 0=some [(first,0)] from by unfold TA;rw[if_pos ⟨by simp,h _ H.g0,by decide⟩]];simp[aa];obtain ⟨E,e,p,rfl,b⟩:=fb (f:=cU most p2 p3) (fun i s=> ∃M,s=(bfS nx first i,M,(i:Int),0,((bfS nx first i).take i).map acc,bfR nx first i)/\MapOf M (bfS nx first i)) N (by
  rintro i s z ⟨M,rfl,o⟩;have a:=c.2 i z;have g:=H.at a;have n:=H.le (i+1);have ⟨p,e,b⟩:=Ju (p3:=p3) (l:=bfS nx first i) (M:=M) (os:=nx (nth (bfS nx first i) (i:Int))) (acs:=((bfS nx first i).take i).map acc) (rws:=bfR nx first i) a (H.len _ g) o (fun y w=>h y (H.gn _ g y w))
   (fun k=>by
    have:(nbS (bfS nx first i) ((nx (nth (bfS nx first i) (i:Int))).take k)).length<=B:=H.bound _ (vB (qP i)) fun x d=>by
     rcases AI.1 d with d | d
     ·exact nD H.g0 H.gn i x d
     ·exact H.gn _ g x (List.mem_of_mem_take d)
    omega) (fun k v=>u _ k g v)
  unfold cU;rw[if_pos (by grind),af e,<-nG a];rw[<-nG a] at b;have t:=(cd (nx:=nx) (first:=first) i).length_le;simp only;rw[if_neg (by grind),ai (by omega) (by omega)];simp only[aa];rw[mO (cd i) (by omega) (by omega),r _ g];simp only[aa];have D:(bfR nx first i).length=i:=mN fun j C=>c.2 j (by omega);rw[al (by simp;omega)];rw[al (by simp;omega)];simp only[aa,ae (show i<9223372036854775807 by omega)];exact ⟨_,rfl,p,by rw[Ce a,zy a],b⟩) (by
  rintro s ⟨M,rfl,o⟩;unfold cU;rw[if_neg (by have:=c.1;grind)]) (s:=([first],[(first,0)],0,0,[],[])) ⟨_,rfl,MapOf.one first⟩ (mB (by omega))
 rw[af e];rw[List.take_of_length_le (by have:=c.1;omega)]
end
theorem Xs {l:List Int} {x:Int} (h:l.length<=9223372036854775807):ql l x=some (if x∈l then (l.idxOf x:Int) else -1):=by
 unfold ql;have ⟨o,e,d⟩:=bW (f:=rI l x) (fun i s=>s=(i:Int)/\x∉l.take i) (fun o=>(x∈l/\o= .ret (l.idxOf x:Int))\/(x∉l/\ ∃s,o= .brk s)) l.length (s:=0) (by
  rintro i s g ⟨rfl,a⟩;unfold rI;by_cases b:i<l.length
  ·rw[if_pos (by grind),ai (by omega) (by omega)];simp[aa];by_cases c:nth l (i:Int)=x
   ·refine .inr ⟨_,by rw[if_pos (by grind)],(fun j e=>by cases e),.inl ?_⟩;have e:l=l.take i++(x::l.drop (i+1)):=by
     grind[bJ,List.drop_eq_getElem_cons,List.take_append_drop]
    grind
   ·refine .inl ⟨b,_,by rw[if_neg (by grind)],by grind[ae],?_⟩;rw[take_one b,List.mem_append,List.mem_singleton];rintro (h | h)
    ·exact a h
    ·exact c h.symm
  simp_all[if_neg,List.take_of_length_le]) ⟨rfl,by simp⟩ (mB h)
 rcases d with ⟨a,rfl⟩ | ⟨a,s,rfl⟩
 ·rw[aW e,if_pos a]
 ·rw[af e,if_neg a]
section
variable {a:AutT} {n:Nat} {c:List Int} {lv:List Bool} {nx:Int->List (Option Int)} {G:Int->Prop} {B:Nat} {acc:Int->Bool}
def good (n:Nat) (lv:List Bool) (r:Int):Prop:=0<=r/\r<n/\nth lv r=true
def AN (a:AutT) (c:List Int) (lv:List Bool) (r:Int):List (Option Int):=(List.range 9).map fun k=>if mv a r k≥0/\nth lv (mv a r k)=true then some (nth c (mv a r k)) else none
theorem M5 {r:Int} {k:Nat} (b:k<9):nth (AN a c lv r) (k:Int)=if mv a r k≥0/\nth lv (mv a r k)=true then some (nth c (mv a r k)) else none:=by
 grind[AN,bJ]
def RepsOf (n:Nat) (lv:List Bool) (c:List Int) (rs l:List Int):Prop:=rs.length=l.length/\ ∀j:Nat,j<l.length->good n lv (nth rs j)/\nth c (nth rs j)=nth l (j:Int)
theorem RepsOf.snoc {rs l:List Int} (h:RepsOf n lv c rs l) {t:Int} (f:good n lv t):RepsOf n lv c (rs++ [t]) (l++ [nth c t]):=by
 refine ⟨by simp[h.1],fun j d=>?_⟩;by_cases e:j<l.length
 ·rw[dB (by omega) (by have:=h.1;omega),dB (by omega) (by omega)];exact h.2 j e
 ·have b:nth (rs++ [t]) (l.length:Int)=t:=by rw[bJ (by simp[h.1])];simp[<-h.1]
  grind[nth,bJ]
theorem R4 (V:VA a n) (M:n<=1000000) (N:c.length=n) (K:lv.length=n) {l rs:List Int} {acs:List Bool} {rws:List (List Int)} {i:Nat} (hi:i<l.length) (F:RepsOf n lv c rs l) {os:List (Option Int)} (J:os.length=9)
  (H: ∀r,good n lv r->nth c r=nth l (i:Int)->AN a c lv r=os) (I: ∀k,(nbS l (os.take k)).length<=1000000) :
  ∃b,ah (jI a c lv (l,rs,(i:Int),0,acs,rws)) aR (l,rs,[],0)=some (.brk (nbS l os,b,nbR l os,9))/\RepsOf n lv c b (nbS l os):=by
 obtain ⟨O,e,b,rfl,C⟩:=fb (f:=jI a c lv (l,rs,(i:Int),0,acs,rws)) (fun k s=> ∃b,s=(nbS l (os.take k),b,nbR l (os.take k),(k:Int))/\RepsOf n lv c b (nbS l (os.take k))) 9 (by
  rintro k s x ⟨d,rfl,j⟩;have m:=om l (os.take k);have z:=m.length_le;have A:=I k;have D:(nbR l (os.take k)).length<=9:=by rw[jR,az];omega
  have L:=j.1;have ⟨⟨t,q,E⟩,y⟩:=j.2 i (by omega);rw[mO m (by omega) (by omega)] at y;have v:=H _ ⟨t,q,E⟩ y;have g:nth os (k:Int)=if mv a (nth d (i:Int)) k≥0/\nth lv (mv a (nth d (i:Int)) k)=true then some (nth c (mv a (nth d (i:Int)) k)) else none:=by
   rw[<-v];exact M5 x
  have w:=V.mv (s:=nth d (i:Int)) (k:=k) t q x;unfold jI;simp only;rw[if_pos (by grind),ai (xs:=d) (by omega) (by omega)];simp only[aa];rw[V.get t q];simp only[aa];rw[V.get2 t q x,take_one (by omega),zp,wq];simp only[aa,ae (show k<9223372036854775807 by omega)];by_cases p:mv a (nth d (i:Int)) k≥0
  ·rw[if_pos (by grind),ai (xs:=lv) p (by omega)];simp only[aa];by_cases o:nth lv (mv a (nth d (i:Int)) k)=true
   ·rw[if_pos ⟨p,o⟩] at g;rw[if_pos o,ai (xs:=c) p (by omega),g];simp only[aa];rw[Xs (by omega)];simp only[aa];by_cases u:nth c (mv a (nth d (i:Int)) k)∈nbS l (os.take k)
    ·rw[if_pos u,if_neg (by simp)];simp only[aa];rw[al (by grind)];exact ⟨_,rfl,d,by rw[po u];rfl,by grind[po]⟩
    ·rw[if_neg u,if_pos (by decide)];rw[al (by grind)];rw[al (by grind)];simp only[aa];rw[al (by grind)];refine ⟨_,rfl,d++ [mv a (nth d (i:Int)) k],?_,?_⟩
     ·grind[pq,nbI,sU]
     ·rw[pq u];exact j.snoc ⟨p,w.2,o⟩
   ·rw[if_neg (fun h=>o h.2)] at g;rw[if_neg o,g];simp only[aa];rw[al (by grind)];exact ⟨_,rfl,d,rfl,j⟩
  ·rw[if_neg (fun h=>p h.1)] at g;rw[if_neg (by grind),g];simp only[aa];rw[al (by grind)];exact ⟨_,rfl,d,rfl,j⟩) (by
  grind[jI]) (s:=(l,rs,[],0)) ⟨rs,rfl,F⟩ (by unfold aR;omega)
 grind
theorem ach (V:VA a n) (C:n<=1000000) (I:c.length=n) (t:lv.length=n) (hs:nth lv a.1=true) (H:NumOk nx (nth c a.1) G B) (O:B<=1000000)
  (E: ∀r,good n lv r->nx (nth c r)=AN a c lv r) (l: ∀r,good n lv r->acc (nth c r)=nth a.2.1 r) :
  ∃N,bfE nx (nth c a.1) N/\lf a c lv=some (0,(bfS nx (nth c a.1) N).map acc,bfR nx (nth c a.1) N):=by
 have ⟨N,A,h⟩:=Xm (nx:=nx) (first:=nth c a.1) (H.le);refine ⟨N,h,?_⟩;have g:=V.start;unfold lf;rw[ai g.1 (by omega)];simp[aa];rw[if_pos hs,ai g.1 (by omega)];simp[aa];obtain ⟨M,e,p,rfl,q⟩:=fb (f:=lY a c lv) (fun i s=> ∃p,s=(bfS nx (nth c a.1) i,p,(i:Int),0,((bfS nx (nth c a.1) i).take i).map acc,bfR nx (nth c a.1) i)/\RepsOf n lv c p (bfS nx (nth c a.1) i)) N (by
  rintro i s K ⟨p,rfl,q⟩;have b:=h.2 i K;have y:=H.at b;have ⟨o,e,d⟩:=R4 (acs:=((bfS nx (nth c a.1) i).take i).map acc) (rws:=bfR nx (nth c a.1) i) V C I t b q (os:=nx (nth (bfS nx (nth c a.1) i) (i:Int))) (H.len _ y) (fun r L e=>by grind) (fun k=>by
    have:(nbS (bfS nx (nth c a.1) i) ((nx (nth (bfS nx (nth c a.1) i) (i:Int))).take k)).length<=B:=H.bound _ (vB (qP i)) fun x m=>by
     rcases AI.1 m with m | m
     ·exact nD H.g0 H.gn i x m
     ·exact H.gn _ y x (List.mem_of_mem_take m)
    omega)
  unfold lY;simp only;rw[if_pos (by grind),af e];rw[<-nG b] at d;have F:=(cd (nx:=nx) (first:=nth c a.1) i).length_le;have J:=d.1;have ⟨⟨w,v,D⟩,u⟩:=d.2 i (by omega);rw[mO (cd i) (by omega) (by omega)] at u;rw[ai (xs:=o) (by omega) (by omega)];simp only[aa];rw[V.acc w v,<-l _ ⟨w,v,D⟩,u];simp only[aa];have L:(bfR nx (nth c a.1) i).length=i:=mN fun j z=>h.2 j (by omega);rw[al (by simp;omega)];rw[al (by simp;omega)];simp only[aa,ae (show i<9223372036854775807 by omega)];exact ⟨_,rfl,o,by rw[<-nG b,Ce b,zy b],d⟩) (by
  rintro s ⟨p,rfl,q⟩;unfold lY;rw[if_neg (by have:=h.1;grind)]) (s:=([nth c a.1],[a.1],0,0,[],[])) ⟨[a.1],rfl,rfl,fun j z=>by
   obtain rfl:j=0:=by simpa [bfS] using z
   exact ⟨⟨g.1,g.2,hs⟩,rfl⟩⟩ (mB (by omega))
 rw[af e];rw[List.take_of_length_le (by have:=h.1;omega)]
theorem Lg (V:VA a n) (b:lv.length=n) (hs:nth lv a.1=false):lf a c lv=some nothing:=by
 have d:=V.start;simp_all[lf,ai,aa,R1]
end
abbrev FR:=(List Int)×Int×Int×(List Int)×Bool
abbrev ZX (x:Int) (j:Nat):Bool:=(sd (pA x (j:Int)) 1)==1
def VR (F:List Int) (set m0:Int):Nat->Int
 | 0=>m0
 | i+1=>if ZX set (i+1) then orI (VR F set m0 i) (nth F (i:Int)) else VR F set m0 i
def pick (L:List Int) (m letter:Int):Nat->Int
 | 0=>0
 | i+1=>if nth L (i:Int)=letter/\ZX m i=true then orI (pick L m letter i) (yj 1 ((i+1:Nat):Int)) else pick L m letter i
def aft (p:FR) (set letter:Int):Int:=pick p.1 (VR p.2.2.2.1 set (if (sd set 1)==1 then p.2.1 else 0) p.2.2.2.1.length) letter p.1.length
def vC (p:FR) (set:Int):Bool:=if (sd set 1)==1 then (if p.2.2.2.2 then true else (sd (pA set 1) p.2.2.1) !=0) else (sd (pA set 1) p.2.2.1) !=0
theorem vD (i:Nat):chk (0<=(i:Int))=some ():=by rfl
theorem ZY {p:FR} {set letter:Int} (h:p.2.2.2.1.length=p.1.length) (j:p.1.length<=1000000):q7 p set letter=some (aft p set letter):=by
 have g: ∀b,ah (ku p set) aR (b,0)=some (.brk (VR p.2.2.2.1 set b p.1.length,(p.1.length:Int))):=fun b =>
  aQ (f:=ku p set) (fun i=>(VR p.2.2.2.1 set b i,(i:Int))) p.1.length (fun i d=>by
   unfold ku;rw[if_pos (by grind),ae (by omega),vD];rw[VR];by_cases c:ZX set (i+1)=true
   ·simp_all[if_pos,ai]
   grind) (by unfold ku;simp) (mB (by omega))
 have e: ∀a:Int×Int,ah (ky p letter a) aR (0,0)=some (.brk (pick p.1 a.1 letter p.1.length,(p.1.length:Int))):=fun a =>
  aQ (f:=ky p letter a) (fun i=>(pick p.1 a.1 letter i,(i:Int))) p.1.length (fun i d=>by
   unfold ky;rw[if_pos (by grind),ae (by omega),vD,vD];rw[pick];by_cases c:ZX a.1 i=true
   ·rw[if_pos c,ai (by omega) (by omega)];grind
   grind) (by unfold ky;simp) (mB (by omega))
 unfold q7 aft;by_cases c:((sd set 1)==1)=true
 ·simp_all[if_pos,aa,af]
 simp_all[if_neg,aa,af]
theorem ZZ {p:FR} {set letter:Int} (h:p.2.2.2.1.length=p.1.length) (j:p.1.length<=1000000):jv p set letter=some (aft p set letter):=by
 have g: ∀b,ah (ez p set) aR (b,0)=some (.brk (VR p.2.2.2.1 set b p.2.2.2.1.length,(p.2.2.2.1.length:Int))):=fun b =>
  aQ (f:=ez p set) (fun i=>(VR p.2.2.2.1 set b i,(i:Int))) p.2.2.2.1.length (fun i d=>by
   unfold ez;rw[if_pos (by grind),ai (by omega) (by omega)];rw[ae (by omega),vD];rw[VR];grind) (by unfold ez;simp) (mB (by omega))
 have e: ∀a:Int×Int,ah (eA p letter a) aR (0,0)=some (.brk (pick p.1 a.1 letter p.1.length,(p.1.length:Int))):=fun a =>
  aQ (f:=eA p letter a) (fun i=>(pick p.1 a.1 letter i,(i:Int))) p.1.length (fun i d=>by
   unfold eA;rw[if_pos (by grind),ai (by omega) (by omega)];rw[ae (by omega),vD,vD];rw[pick];grind) (by unfold eA;simp) (mB (by omega))
 unfold jv aft;by_cases c:((sd set 1)==1)=true
 ·simp_all[if_pos,aa,af]
 simp_all[if_neg,aa,af]
theorem aci (p:FR) (x:Int):oy p x=some (vC p x):=by
 grind[oy,vC]
theorem acj (p:FR) (x:Int):eX p x=some (vC p x):=by
 grind[eX,vC]
theorem OO (x:Int): -9223372036854775808<=i64.wrap x/\i64.wrap x<=9223372036854775807:=by
 simp[IntKind.wrap,IntKind.bits,IntKind.signed,Bool.true_and];grind
theorem Z0 (x:Int):iOk (i64.wrap x)=true:=by
 have a:i64.min= -9223372036854775808:=by decide
 simp_all[OO,iOk,Lit.wf,aj,decide_eq_true_eq]
theorem ack (m n:Int):iOk (orI m n)=true:=Z0 _
theorem R5 (L:List Int) (m letter:Int): ∀i,iOk (pick L m letter i)=true
 | 0=>by rfl
 | i+1=>by
  rw[pick];split
  ·exact ack _ _
  ·exact R5 L m letter i
def nxS (p:FR) (x:Int):List (Option Int):=(List.range 9).map fun k:Nat=>if aft p x (k:Int)=0 then none else some (aft p x (k:Int))
theorem Xt {p:FR} {x:Int} {k:Nat} (a:k<9):nth (nxS p x) (k:Int)=if aft p x k=0 then none else some (aft p x k):=by
 grind[nxS,bJ]
theorem DX (p:FR) (x:Int):(nxS p x).length=9:=by simp[nxS]
theorem acm {p:FR} {x y:Int} (h:some y∈nxS p x):iOk y=true:=by
 have ⟨k,a,e⟩:=List.mem_map.1 h;split at e
 ·cases e
 ·cases ad e;exact R5 _ _ _ _
theorem R6 {κ:Type} [DecidableEq κ] : ∀(l:List κ) (os:List (Option κ)),(nbS l os).length<=l.length+os.length
 | l,[] =>by simp[nbS]
 | l,o::os=>by
  have h:=R6 (nbL l o) os;have a:(nbL l o).length<=l.length+1:=by
   cases o with
   | none=>simp[nbL]
   | some x=>grind[nbL]
  grind[nbS,nbL,aw]
section
variable {κ:Type} [DecidableEq κ] (nx:κ->List (Option κ)) (first:κ) (acc:κ->Bool) (most:Nat)
def goM:Nat->Nat->AutT×Bool
 | 0,i=>((0,[],[]),false)
 | f+1,i=>if i<(bfS nx first i).length then (if (bfS nx first (i+1)).length>most then ((0,[],[]),false) else goM f (i+1)) else ((0,((bfS nx first i).take i).map acc,bfR nx first i),true)
end
section
variable {κ:Type} [DecidableEq κ] {nx:κ->List (Option κ)} {first:κ} {acc:κ->Bool} {most:Nat}
theorem R7 {i:Nat} (h: ∀j,j<i->j<(bfS nx first j).length):i<=(bfS nx first i).length:=by
 cases i with
 | zero=>omega
 | succ i =>
  have a:=h i (by omega);grind[cd]
theorem M6 {S:Type} {f:S->Option (Out (AutT×Bool) S)} (p:most<=1000000) (h1:1<=most) (b:Nat->S->Prop)
  (hs: ∀i s,b i s->(∀j,j<i->j<(bfS nx first j).length)->(bfS nx first i).length<=most->i<(bfS nx first i).length->((bfS nx first (i+1)).length>most->f s=some (.ret ((0,[],[]),false)))/\((bfS nx first (i+1)).length<=most-> ∃a,f s=some (.nxt a)/\b (i+1) a))
  (h: ∀i s,b i s-> ¬i<(bfS nx first i).length->f s=some (.brk s)) {s:S} (m:b 0 s) :
  (ah f aR s=some (.ret ((0,[],[]),false))/\goM nx first acc most (most+2) 0=((0,[],[]),false)) \/
  ∃N a,ah f aR s=some (.brk a)/\b N a/\bfE nx first N/\N<=most/\goM nx first acc most (most+2) 0=((0,(bfS nx first N).map acc,bfR nx first N),true):=by
 have ⟨o,e,q⟩:=bW (f:=f) (fun i s=>b i s/\(∀j,j<i->j<(bfS nx first j).length)/\(bfS nx first i).length<=most/\goM nx first acc most (most+2) 0=goM nx first acc most (most+2 - i) i)
  (fun o=>(o= .ret ((0,[],[]),false)/\goM nx first acc most (most+2) 0=((0,[],[]),false))\/ ∃N a,o= .brk a/\b N a/\bfE nx first N/\N<=most/\goM nx first acc most (most+2) 0=((0,(bfS nx first N).map acc,bfR nx first N),true)) most (s:=s) (by
  rintro i s n ⟨d,g,t,k⟩;have l:=R7 g;rw[show most+2 - i=(most+1 - i)+1 from by omega] at k;have r:goM nx first acc most (most+1 - i+1) i=if i<(bfS nx first i).length then (if (bfS nx first (i+1)).length>most then ((0,[],[]),false) else goM nx first acc most (most+1 - i) (i+1)) else ((0,((bfS nx first i).take i).map acc,bfR nx first i),true):=rfl
  by_cases c:i<(bfS nx first i).length
  ·grind
  ·refine .inr ⟨_,h i s d c,(fun a e=>by cases e),.inr ⟨i,s,rfl,d,⟨by omega,g⟩,n,?_⟩⟩;grind) ⟨m,fun j u=>by omega,by simp[bfS];omega,rfl⟩ (mB (by omega))
 grind
end
section
variable {p:FR} {most:Nat} (hl:p.2.2.2.1.length=p.1.length) (hb:p.1.length<=1000000) (hm:most<=900000) (h1:1<=most)
include hl hb hm h1
theorem aeh:kI p most=some (goM (nxS p) 1 (vC p) most (most+2) 0):=by
 have m: ∀(l:List Int) (i k:Nat),k<9-> ∃j,(fun b d=>eH b d (p.1,p.2.1,p.2.2.1,p.2.2.2.1,p.2.2.2.2)) (nth l (i:Int)) (k:Int)=some (match nth (nxS p (nth l (i:Int))) (k:Int) with | some y=>(y,true) | none=>(j,false)):=by
  intro l i k n;refine ⟨0,?_⟩;show eH _ _ p=_;unfold eH;rw[ZZ hl hb,Xt n];by_cases c:aft p (nth l (i:Int)) k=0
  ·grind
  ·grind
 unfold kI gB;rw[show TA ([] :List (Int×Int)) iOk iOk 1 0=some [(1,0)] from by rfl];simp[aa];rcases M6 (nx:=nxS p) (first:=1) (acc:=vC p) (most:=most) (f:=cU most (fun b=>eX (p.1,p.2.1,p.2.2.1,p.2.2.2.1,p.2.2.2.2) b) (fun b d=>eH b d (p.1,p.2.1,p.2.2.1,p.2.2.2.1,p.2.2.2.2)))
  (by omega) h1 (fun i s=> ∃M,s=(bfS (nxS p) 1 i,M,(i:Int),0,((bfS (nxS p) 1 i).take i).map (vC p),bfR (nxS p) 1 i)/\MapOf M (bfS (nxS p) 1 i)) (by
   rintro i s ⟨M,rfl,h⟩ x u a;have ⟨w,e,g⟩:=Ju (p3:=fun b d=>eH b d (p.1,p.2.1,p.2.2.1,p.2.2.2.1,p.2.2.2.2)) (l:=bfS (nxS p) 1 i) (M:=M) (os:=nxS p (nth (bfS (nxS p) 1 i) (i:Int))) (acs:=((bfS (nxS p) 1 i).take i).map (vC p)) (rws:=bfR (nxS p) 1 i) a (DX _ _) h (fun y z=>acm z)
    (fun k=>by
     grind[R6,bfS,nxS,nth,DX,az]) (fun k n=>m _ i k n)
   rw[<-nG a] at g;have v:=(cd (nx:=nxS p) (first:=1) i).length_le;constructor
   ·simp_all[cU,if_pos,af,nG]
   ·intro o;unfold cU;rw[if_pos (by grind),af e,<-nG a];simp only;rw[if_neg (by grind),ai (by omega) (by omega)];simp only[aa];rw[mO (cd i) (by omega) (by omega)];rw[acj];simp only[aa];have B:=mN x;rw[al (by simp;omega)];rw[al (by simp;omega)];simp only[aa,ae (show i<9223372036854775807 by omega)];exact ⟨_,rfl,w,by rw[Ce a,zy a],g⟩) (by
   rintro i s ⟨M,rfl,h⟩ A;simp_all[cU,if_neg]) (s:=([1],[(1,0)],0,0,[],[])) ⟨_,rfl,MapOf.one 1⟩ with ⟨e,q⟩ | ⟨N,C,e,⟨M,rfl,h⟩,r,t,q⟩
 ·grind[aW]
 ·rw[af e,q];simp only[aa];rw[List.take_of_length_le (by have:=r.1;omega)]
theorem VS {l:List Int} {acs:List Bool} {rws:List (List Int)} {i:Nat} (hi:i<l.length) (j:l.length<=most) :
  ah (k9 p (l,(i:Int),0,acs,rws)) aR (l,[],0)=some (.brk (nbS l (nxS p (nth l (i:Int))),nbR l (nxS p (nth l (i:Int))),9)):=by
 have m:=DX p (nth l (i:Int))
 have:=aQ (f:=k9 p (l,(i:Int),0,acs,rws)) (fun k=>(nbS l ((nxS p (nth l (i:Int))).take k),nbR l ((nxS p (nth l (i:Int))).take k),(k:Int))) 9 (fun k e=>by
  have a:=om l ((nxS p (nth l (i:Int))).take k);have b:=a.length_le;have g:=R6 l ((nxS p (nth l (i:Int))).take k);rw[az] at g;have h:(nbR l ((nxS p (nth l (i:Int))).take k)).length<=9:=by rw[jR,az];omega
  unfold k9;simp only[fx];rw[if_pos (by grind),ai (by omega) (by omega)];simp only[aa];rw[mO a (by omega) (by omega),ZY hl hb];simp only[aa];rw[take_one (by omega),zp,wq,Xt e];simp only[ae (show k<9223372036854775807 by omega)];by_cases c:aft p (nth l (i:Int)) k=0
  ·rw[if_pos c,if_neg (by simp[c])];simp[aa];rw[al (by grind)];rfl
  ·rw[if_neg c,if_pos (by grind),Xs (by omega)];simp[aa];by_cases d:aft p (nth l (i:Int)) k∈nbS l ((nxS p (nth l (i:Int))).take k)
   ·rw[if_pos d,if_neg (by simp),po d];simp[aa];rw[al (by grind)];rfl
   ·rw[if_neg d,if_pos (by decide),al (by grind),pq d];simp[aa];rw[al (by simp;omega)];simp[nbI,sU d,aa]) (by
  rfl) (by unfold aR;omega)
 exact this
theorem acn:fF p most=some (goM (nxS p) 1 (vC p) most (most+2) 0):=by
 unfold fF;rcases M6 (nx:=nxS p) (first:=1) (acc:=vC p) (most:=most) (f:=iF p most)
  (by omega) h1 (fun i s=>s=(bfS (nxS p) 1 i,(i:Int),0,((bfS (nxS p) 1 i).take i).map (vC p),bfR (nxS p) 1 i)) (by
   rintro i s rfl j c a;have e:=VS hl hb hm h1 (acs:=((bfS (nxS p) 1 i).take i).map (vC p)) (rws:=bfR (nxS p) 1 i) a c;have k:=(cd (nx:=nxS p) (first:=1) i).length_le;constructor
   ·simp_all[iF,if_pos,af,nG]
   ·intro d;unfold iF;rw[if_pos (by grind),af e,<-nG a];simp only;rw[if_neg (by grind),ai (by omega) (by omega)];simp only[aa];rw[mO (cd i) (by omega) (by omega)];rw[aci];simp only[aa];have m:=mN j;rw[al (by simp;omega)];rw[al (by simp;omega)];simp only[aa,ae (show i<9223372036854775807 by omega)];exact ⟨_,rfl,by rw[Ce a,zy a]⟩) (by
   simp_all[iF,if_neg]) (s:=([1],0,0,[],[])) rfl with ⟨e,b⟩ | ⟨N,l,e,rfl,g,h,b⟩
 ·rw[aW e,b]
 ·rw[af e,b];rw[List.take_of_length_le (by have:=g.1;omega)]
end
theorem VT (m n:Int):orI m n=orI n m:=by unfold orI;rw[BitVec.or_comm]
def lk (F:List Int) (from_ to_:Int):Nat->List Int
 | 0=>F
 | i+1=>if ZX from_ i then (lk F from_ to_ i).set i (orI (nth (lk F from_ to_ i) (i:Int)) to_) else lk F from_ to_ i
theorem zz (F:List Int) (f t:Int): ∀i,(lk F f t i).length=F.length
 | 0=>rfl
 | i+1=>by
  rw[lk];split
  ·rw[List.length_set,zz]
  ·exact zz F f t i
theorem M7 {p:FR} {f t:Int} (b:p.2.2.2.1.length<=1000000):qk p f t=some (p.1,p.2.1,p.2.2.1,lk p.2.2.2.1 f t p.2.2.2.1.length,p.2.2.2.2):=by
 have d:ah (lK f t) aR (0,p.2.2.2.1)=some (.brk ((p.2.2.2.1.length:Int),lk p.2.2.2.1 f t p.2.2.2.1.length)):=aQ (f:=lK f t) (fun i=>((i:Int),lk p.2.2.2.1 f t i)) p.2.2.2.1.length (fun i e=>by
  have a:=zz p.2.2.2.1 f t i;unfold lK;rw[if_pos (by grind),vD];rw[lk,ae (by omega)];by_cases c:ZX f i=true
  ·simp_all[if_pos,ai,aa,Int.toNat_natCast]
  grind) (by unfold lK;simp[zz]) (mB (by omega))
 grind[qk,af]
theorem M8 {p:FR} {f t:Int} (b:p.2.2.2.1.length<=1000000):fp p f t=some (p.1,p.2.1,p.2.2.1,lk p.2.2.2.1 f t p.2.2.2.1.length,p.2.2.2.2):=by
 have d:ah (dY p f t) aR (0,p.2.2.2.1)=some (.brk ((p.2.2.2.1.length:Int),lk p.2.2.2.1 f t p.2.2.2.1.length)):=aQ (f:=dY p f t) (fun i=>((i:Int),lk p.2.2.2.1 f t i)) p.2.2.2.1.length (fun i e=>by
  have a:=zz p.2.2.2.1 f t i;unfold dY;rw[if_pos (by grind),vD];rw[lk,ae (by omega)];by_cases c:ZX f i=true
  ·simp_all[if_pos,ai,aa,Int.toNat_natCast]
  grind) (by unfold dY;simp) (mB (by omega))
 grind[fp,af]
def BOk (x:Tr Tok):Prop:= ∀(n m:Nat) (p:FR),(flat x).length<=n->(flat x).length<=m->p.2.2.2.1.length=p.1.length->p.1.length+(flat x).length<=100000->
 ∃(nu:Bool) (fi la:Int) (q:FR),cP n p (flat x)=some ((nu,fi,la),q)/\bM m p x=some ((fi,la,nu),q)/\q.2.2.2.1.length=q.1.length/\q.1.length<=p.1.length+(flat x).length
theorem VU {x:Tr Tok} (h:WT x):BOk x:=by
 refine WT.ind (p:=BOk) ?_ ?_ ?_ h
 ·intro t e n m p d c u j;rw[Ho] at d c j⊢;simp only[aw,aD] at j
  match n,m,d,c with
  | n+1,m+1,_,_ =>
   rw[cP,bM];simp only[um,aa]
   have:=(mm (A:=[]) (t:=t) (by simp)).1
   rw[List.nil_append] at this;rw[this];simp only[aa,fx];rcases oo (show 0<=ar t by omega) with ⟨k,_⟩ | ⟨k,_⟩ | ⟨_,k⟩
   ·omega
   ·omega
   rcases k with k | k | k
   ·exact ⟨false,0,0,p,by simp[k],by simp[k],u,by simp⟩
   ·exact ⟨true,0,0,p,by simp[k],by simp[k],u,by simp⟩
   ·refine ⟨false,yj 1 (p.1.length:Int),yj 1 (p.1.length:Int),(p.1++ [t.2.1],p.2.1,p.2.2.1,p.2.2.2.1++ [0],p.2.2.2.2),?_,?_,by grind,by simp⟩
    ·rw[if_neg (by simp[k]),if_pos (by simp[k]),al (by grind)];simp only[aa];rw[al (by simp;omega)];rfl
    ·rw[if_neg (by simp[k]),if_pos (by simp[k]),al (by grind)];simp only[aa];rw[al (by simp;omega)];rfl
 ·intro t a e V Z n m p d c u j;rw[EY] at d c j⊢;simp only[au,aw,aD] at d c j
  match n,m,d,c with
  | n+1,m+1,d,c =>
   rw[cP,bM];simp only[um,aa,fx];obtain ⟨J,G⟩:=mm (A:=flat a) (t:=t) (by omega);rw[J];simp only[aa];obtain ⟨i,E,v,q,H,I,l,M⟩:=Z n m p (by omega) (by omega) u (by omega);rcases RS e with ⟨S,z⟩ | ⟨S,z,k3⟩
   ·have y:(t.1==2)=false:=by simp[z]
    have D:(t.1==3)=false:=by simp[z]
    have F:(t.1==4)=false:=by simp[z]
    have w:(t.1==5)=false:=by simp[z]
    simp only[y,D,F,w,S,Bool.false_eq_true,if_false,if_true];rw[G,Int.toNat_natCast,List.take_left,kT (by grind)];simp only[aa];rw[H,show aO [a] 0=some a from rfl];simp only[aa];rw[I];simp only[aa,fx];rw[M7 (by omega),M8 (by omega)];simp only[aa];refine ⟨true,E,v,_,rfl,rfl,?_,?_⟩
    ·simp only[zz];exact l
    ·simp only[au,aw,aD];omega
   grind
 ·intro t a b e V W N O n m p d c u j;rw[zu] at d c j⊢;have L:((flat a++flat b)++ [t]).length<=1000000:=by omega
  obtain ⟨X,P,T,Q⟩:=zx (a:=a) (t:=t) W L;simp only[au,aw,aD] at d c j
  match n,m,d,c with
  | n+1,m+1,d,c =>
   have hpa:=V.pos;have hpb:=W.pos;rw[cP,bM];simp only[um,aa,fx];obtain ⟨J,G⟩:=mm (A:=flat a++flat b) (t:=t) (by grind);rw[J];simp only[aa];obtain ⟨i,E,v,q,H,I,l,M⟩:=N n m p (by omega) (by omega) u (by omega);obtain ⟨f,s,g,o,C,B,K,hq4⟩:=O n m q (by omega) (by omega) l (by omega);have c1: ∀r:Int,0<=r->r<=((flat a++flat b++ [t]).length:Int)->chk (0<=r/\r<=((flat a++flat b++ [t]).length:Int))=some ():=fun r h1 Y=>kT ⟨h1,Y⟩;have U:aO [a,b] 0=some a:=rfl;have R:aO [a,b] 1=some b:=rfl;rcases oo (show 0<=ar t by omega) with ⟨_,k⟩ | ⟨k,_⟩ | ⟨k,_⟩
   ·rcases k with k | k
    ·have y:(t.1==2)=false:=by simp[k]
     have D:(t.1==3)=false:=by simp[k]
     have F:(t.1==4)=true:=by simp[k]
     have w:(t.1==5)=false:=by simp[k]
     simp only[y,D,F,w,Bool.false_eq_true,if_false,if_true];rw[G,X,P,kT (by grind)];simp only[aa];rw[kT (by grind),T,Q,H,U,R];simp only[aa];rw[I,kT (by grind)];simp only[aa,fx];rw[C,B];simp only[aa,fx];rw[M7 (by omega),M8 (by omega)];simp only[aa];refine ⟨i&&f,if i then orI E s else E,if f then orI v g else g,(o.1,o.2.1,o.2.2.1,lk o.2.2.2.1 v s o.2.2.2.1.length,o.2.2.2.2),?_,?_,?_,?_⟩
     ·cases i <;> cases f <;> rfl
     ·rw[VT v g];cases i <;> cases f <;> rfl
     ·grind[zz]
     grind
    ·have y:(t.1==2)=false:=by simp[k]
     have D:(t.1==3)=false:=by simp[k]
     have F:(t.1==4)=false:=by simp[k]
     have w:(t.1==5)=true:=by simp[k]
     simp only[y,D,F,w,Bool.false_eq_true,if_false,if_true];rw[G,X,P,kT (by grind)];simp only[aa];rw[kT (by grind),T,Q,H,U,R];simp only[aa];rw[I,kT (by grind)];simp only[aa,fx];rw[C,B];simp only[aa,fx];refine ⟨i || f,orI E s,orI v g,o,?_,?_,K,?_⟩
     ·cases i <;> simp
     ·cases i <;> simp
     grind
   ·omega
   ·omega
def M9 (e:List Tok):Nat->Nat
 | 0=>0
 | i+1=>if (nth e (i:Int)).1=3 then M9 e i+1 else M9 e i
theorem Lh (e:List Tok): ∀i,M9 e i<=i
 | 0=>ay _
 | i+1=>by
  have:=Lh e i
  grind[M9]
theorem aco {r:List Tok×Bool} (a:r.1.length<=1000000):ah (eT r) aR (0,0)=some (.brk ((M9 r.1 r.1.length:Int),(r.1.length:Int))):=
 aQ (f:=eT r) (fun i=>((M9 r.1 i:Int),(i:Int))) r.1.length (fun i b=>by
  have:=Lh r.1 i
  unfold eT;rw[if_pos (by grind),ai (by omega) (by omega)];rw[M9,ae (show i<9223372036854775807 by omega),ae (show M9 r.1 i<9223372036854775807 by omega)];grind) (by unfold eT;simp) (mB (by omega))
theorem aei {r:List Tok×Bool} (a:r.1.length<=1000000):ah (eW r) aR (0,0)=some (.brk ((M9 r.1 r.1.length:Int),(r.1.length:Int))):=
 aQ (f:=eW r) (fun i=>((M9 r.1 i:Int),(i:Int))) r.1.length (fun i b=>by
  have:=Lh r.1 i
  unfold eW;rw[if_pos (by grind),ai (by omega) (by omega)];rw[M9,ae (show i<9223372036854775807 by omega),ae (show M9 r.1 i<9223372036854775807 by omega)];grind) (by unfold eW;simp) (mB (by omega))
theorem yd {e:List Tok} (f:e.length<=1048576): ∃r:FR×Bool,dU e=some r/\jW e=some r/\r.1.2.2.2.1.length=r.1.1.length/\r.1.1.length<=100000:=by
 have n:=qQ;have ⟨g,j⟩:=Le f;unfold dU jW;rw[g,j];simp only[aa];by_cases c:(M2 e).2=true
 ·have ⟨y,a,l,t⟩:=RW c;rw[if_pos c,if_pos c,af (aco (by grind)),af (aei (by grind))];by_cases d:(M9 (M2 e).1 (M2 e).1.length:Int)>20
  ·simp_all
  ·have m:=decide_eq_false d;simp only[m,Bool.false_eq_true,if_false];rw[l,Hr (by omega),wt a];simp only[aa];have ⟨p,s,o,q,h,k,b,i⟩:=VU a gj gj ([],0,0,[],false) (by omega) (by omega) rfl (by grind);rw[h,k];simp[aa];grind
 simp_all
theorem OP (n:Nat) (l:List Int) (b:l.Nodup) (h: ∀x∈l,0<=x/\x<n):l.length<=n:=by
 have:=b.length_le_of_subset (l₂:=(List.range n).map Int.ofNat) (fun x a=>by
  obtain ⟨c,d⟩:=h x a;exact List.mem_map.2 ⟨x.toNat,List.mem_range.2 (by omega),by show ((x.toNat:Nat):Int)=x;omega⟩)
 simpa using this
theorem acp {n:Nat} {x:Int} (b:n<=1000000) (a:0<=x) (h1:x<n):iOk x=true:=by
 have:=R3 (n:=x.toNat) (by omega)
 rwa [show ((x.toNat:Nat):Int)=x from by omega] at this
theorem acq {κ:Type} [DecidableEq κ] {nx:κ->List (Option κ)} {first:κ} {G:κ->Prop} {B N:Nat} {acc:κ->Bool} (H:NumOk nx first G B) (d:B<=1000000) (c:bfE nx first N):Data.sm ((0,(bfS nx first N).map acc,bfR nx first N):AutT):=by
 have e:=H.bound _ (qP (nx:=nx) (first:=first) N) (nD H.g0 H.gn N);refine ⟨trivial,⟨by rw[List.length_map];omega,fun _ _=>trivial⟩,?_,?_⟩
 ·rw[mN c.2];have:=c.1;omega
 ·have key: ∀i,i<=N-> ∀r∈bfR nx first i,r.length=9:=by
   intro i;induction i with
   | zero=>intro _ r a;cases a
   | succ i ih =>
    intro f r a;have b:=c.2 i (by omega);rw[zq b] at a;rcases aI a with a | a
    ·exact ih (by omega) r a
    ·obtain rfl:=aq a;rw[jR,H.len _ (nD H.g0 H.gn i _ (List.getElem_mem b))]
  intro r a;exact ⟨by rw[key N (ay _) r a];decide,fun _ _=>trivial⟩
theorem OQ:Data.sm nothing:=⟨trivial,⟨by decide,fun _ _=>trivial⟩,by decide,fun r a=>by
 obtain rfl:=aq a;exact ⟨by decide,fun _ _=>trivial⟩⟩
theorem OR {κ:Type} [DecidableEq κ] {l m:List κ} (h:l <+:m) {y:κ} (a:y∈l):(m.idxOf y:Int)=l.idxOf y:=by
 obtain ⟨t,rfl⟩:=h;grind
theorem Xu {κ:Type} [DecidableEq κ] : ∀(l:List κ) (os:List (Option κ)) (i:Nat),i<os.length->nth (nbR l os) (i:Int)=nbI (nbS l os) (nth os (i:Int))
 | l,o::os,0,_=>by
  show nbI l o=nbI (nbS (nbL l o) os) o;cases o with
  | none=>rfl
  | some y =>
   have a:y∈nbL l (some y):=RN.2 (.inr rfl);simp[nbI];rw[OR (om _ os) a];by_cases c:y∈l
   ·rw[po c]
   simp_all[pq,List.idxOf_append,if_neg,sU]
 | l,o::os,i+1,h=>by
  have b:i<os.length:=by simpa using h
  have d:=Xu (nbL l o) os i b;have e:nth (nbR l (o::os)) ((i+1:Nat):Int)=nth (nbR (nbL l o) os) (i:Int):=by
   rfl
  have f:nth (o::os) ((i+1:Nat):Int)=nth os (i:Int):=by rfl
  exact d
theorem rV {κ:Type} [DecidableEq κ] {l:List κ} {y:κ} (h:y∈l): ∃(q:Nat) (a:q<l.length),nbI l (some y)=(q:Int)/\l[q] =y:=
 ⟨l.idxOf y,List.idxOf_lt_length_of_mem h,rfl,by simp⟩
theorem Hu {κ:Type} [DecidableEq κ] {l:List κ} {y:κ} (h:y∉l):nbI l (some y)=(l.length:Int):=by simp[nbI,sU h]
def Xv:List Int->Nat->Nat->Prop
 | [],c,m=>c=m
 | x::xs,c,m=>(x= -1/\Xv xs c m)\/(0<=x/\x<c/\Xv xs c m)\/(x=c/\Xv xs (c+1) m)
theorem Hv {κ:Type} [DecidableEq κ] : ∀(os:List (Option κ)) (l:List κ),Xv (nbR l os) l.length (nbS l os).length
 | [],l=>rfl
 | none::os,l=>.inl ⟨rfl,Hv os l⟩
 | some y::os,l=>by
  by_cases c:y∈l
  ·refine .inr (.inl ⟨Int.natCast_nonneg _,?_,?_⟩)
   ·grind[List.idxOf_lt_length_of_mem,nbI]
   ·show Xv (nbR (nbL l (some y)) os) l.length (nbS (nbL l (some y)) os).length;rw[po c];exact Hv os l
  ·refine .inr (.inr ⟨by simp[nbI,sU c],?_⟩);show Xv (nbR (nbL l (some y)) os) (l.length+1) (nbS (nbL l (some y)) os).length
   have:=Hv os (l++ [y])
   grind[pq]
def adC:List Int->List (Option (List Int))->Prop
 | [],[] =>True
 | x::xs,o::os=>((x<0/\o=none)\/(0<=x/\ ∃t,o=some (x::t)))/\adC xs os
 | _,_=>False
theorem R8: ∀(xs:List Int) (os:List (Option (List Int))),xs.length=os.length->(∀i (h:i<xs.length) (c:i<os.length),(xs[i] < 0/\os[i] =none)\/(0<=xs[i] /\ ∃t,os[i] =some (xs[i] ::t)))->adC xs os
 | [],[],_,_=>trivial
 | x::xs,o::os,hl,h=>⟨h 0 (by simp) (by simp),R8 xs os (by grind) fun i a b=>h (i+1) (by grind) (by grind)⟩
theorem qR: ∀(xs:List Int) (os:List (Option (List Int))) (l:List (List Int)) (c m:Nat),adC xs os->Xv xs c m->(∀y∈l,∃h t,y=h::t/\h<c)->
  m+l.length<=(nbS l os).length+c/\(l.length=c->(∀(q:Nat) (v:q<l.length),∃t,l[q] =(q:Int)::t)->(nbS l os).length=m->nbR l os=xs)
 | [],[],l,c,m,_,a,_=>by
  subst a;exact ⟨by simp[nbS];omega,fun _ _ _=>rfl⟩
 | x::xs,o::os,l,c,m,hr,a,hh=>by
  have ⟨i,b⟩:=hr;rcases a with ⟨rfl,a⟩ | ⟨r,z,a⟩ | ⟨rfl,a⟩
  ·have u:o=none:=by
    rcases i with ⟨-,h⟩ | ⟨h,-⟩
    ·exact h
    ·omega
   subst u;have ⟨g,f⟩:=qR xs os l c m b a hh;exact ⟨g,fun p j d=>by show -1::nbR l os=_;rw[f p j d]⟩
  ·obtain ⟨t,rfl⟩: ∃t,o=some (x::t):=by
    grind
   by_cases k:(x::t)∈l
   ·have ⟨g,f⟩:=qR xs os l c m b a hh;grind[nbL,po,nbS,rV,nbI,nbR]
   ·have ⟨g,f⟩:=qR xs os (l++ [x::t]) c m b a (fun y w=>by
     grind)
    grind[au,List.length_singleton,nbS,nbL]
  ·obtain ⟨t,rfl⟩: ∃t,o=some ((c:Int)::t):=by
    grind
   have k:((c:Int)::t)∉l:=fun k=>by
    grind
   have s:=pq k;have ⟨g,f⟩:=qR xs os (l++ [(c:Int)::t]) (c+1) m b a (fun y w=>by
    grind)
   have n:(l++ [(c:Int)::t]).length=l.length+1:=by simp
   refine ⟨by grind[nbS,nbL],fun p j d=>?_⟩;have d:(nbS (nbL l (some ((c:Int)::t))) os).length=m:=d;rw[s] at d
   have:=f (by omega) (fun q v=>by
    by_cases e:q<l.length
    ·grind
    grind) d
   grind[nbI,nbR,nbL,Hu]
theorem AO (xs ys:List Int) (d:xs.length<=1048576): ∃r,qi xs ys=some r/\(r=0↔xs=ys):=by
 unfold qi;have a:=ab7 (f:=qZ xs ys) xs ys (fun i h b=>by
  simp[qZ,bu h,bu b,if_true,aC h,aC b,aa,ae (show i<9223372036854775807 by omega)];grind) (fun i k=>by
  grind[qZ]) xs.length 0 aR (by omega) (cX _ (by omega))
 rw[show (((0:Nat):Int))=(0:Int) from rfl] at a;rcases a with ⟨r,e,c,g⟩ | ⟨s,e,c⟩
 ·exact ⟨r,by rw[e];rfl,by grind⟩
 ·simp[aM];by_cases j:xs.length<ys.length
  ·exact ⟨-1,by grind,by grind⟩
  ·by_cases l:xs.length>ys.length
   ·exact ⟨1,by grind,by grind⟩
   ·exact ⟨0,by grind,by grind⟩
theorem zA (xs ys:List Int) (a:xs.length<=9223372036854775807):cr xs ys=some (decide (xs=ys)):=
 eqL (f:=dD xs ys) xs ys a (fun i h b=>by
  simp[dD,bu h,if_true,aC h,aC b,aa,ae (show i<9223372036854775807 by omega)];grind) (by simp only[dD,bE];rfl)
def Xw (a:AutT):List Int:=(List.range a.2.1.length).map fun s:Nat=>if nth (live a) (s:Int)=true then (if nth a.2.1 (s:Int)=true then 1 else 0) else -1
def ent (a:AutT) (c:List Int) (s:Int) (k:Nat):Int:=if mv a s k<0 then -1 else nth c (mv a s k)
def H1 (a:AutT) (c:List Int) (s:Int):List Int:=nth c s::(List.range 9).map fun k=>ent a c s k
def H2 (a:AutT) (c:List Int) (s:Nat):Option (List Int):=if nth c (s:Int)<0 then none else some (H1 a c s)
def keys (a:AutT) (c:List Int):List (Option (List Int)):=(List.range a.2.1.length).map (H2 a c)
def FU (a:AutT) (c:List Int):List Int:=nbR [] (keys a c)
def Er (a:AutT) (c:List Int):Nat:=(nbS [] (keys a c)).length
def cI (a:AutT):Nat->List Int
 | 0=>Xw a
 | j+1=>FU a (cI a j)
section
variable {a:AutT} {n:Nat}
theorem fZ (a:AutT) (c:List Int):(keys a c).length=a.2.1.length:=by simp[keys]
theorem Li {c:List Int} {s:Nat} (h:s<a.2.1.length):nth (keys a c) (s:Int)=H2 a c s:=by
 grind[bJ,keys]
theorem DY (a:AutT) (c:List Int):(FU a c).length=a.2.1.length:=by rw[FU,jR,fZ]
theorem sX (a:AutT): ∀j,(cI a j).length=a.2.1.length
 | 0=>by simp[cI,Xw]
 | j+1=>DY a _
theorem tL {κ:Type} [DecidableEq κ] : ∀(l:List κ) (os:List (Option κ)),(nbS l os).length<=l.length+os.length
 | l,[] =>by simp[nbS]
 | l,o::os=>by
  have h:=tL (nbL l o) os
  have:(nbL l o).length<=l.length+1:=by
   cases o with
   | none=>simp[nbL]
   | some x=>grind[nbL]
  grind[nbS,nbL,aw]
theorem Lj (a:AutT) (c:List Int):Er a c<=a.2.1.length:=by
 grind[tL,keys,fZ,Er]
theorem Hw {c:List Int} {s:Nat} (h:s<a.2.1.length):nth (FU a c) (s:Int)=nbI (nbS [] (keys a c)) (H2 a c s):=by
 grind[FU,Xu,fZ,Li]
theorem DZ {c:List Int} {s:Nat} (h:s<a.2.1.length) (b: ¬nth c (s:Int)<0):H1 a c s∈nbS [] (keys a c):=by
 refine AI.2 (.inr ?_);refine List.mem_map.2 ⟨s,List.mem_range.2 h,?_⟩;unfold H2;grind
theorem Cf {c:List Int} {s:Nat} (h:s<a.2.1.length):(nth (FU a c) (s:Int)<0↔nth c (s:Int)<0)/\(nth (FU a c) (s:Int)<0->nth (FU a c) (s:Int)= -1):=by
 rw[Hw h];unfold H2;by_cases b:nth c (s:Int)<0
 ·simp_all[if_pos,nbI]
 ·grind[rV,DZ,absurd]
theorem Z1 {c:List Int} {s:Nat} (h:s<a.2.1.length):nth (FU a c) (s:Int)<(a.2.1.length:Int):=by
 rw[Hw h];unfold H2;by_cases b:nth c (s:Int)<0
 ·grind[nbI]
 ·obtain ⟨q,d,e,-⟩:=rV (DZ h b)
  have:=Lj a c
  grind[Er]
theorem R9 {c:List Int} {s t:Nat} (hs:s<a.2.1.length) (b:t<a.2.1.length) (l:0<=nth (FU a c) (s:Int)) (h:nth (FU a c) (s:Int)=nth (FU a c) (t:Int)):H1 a c s=H1 a c t:=by
 have f: ¬nth c (s:Int)<0:=fun k=>by have:=(Cf hs).1.2 k;omega
 have g: ¬nth c (t:Int)<0:=fun k=>by simp_all[Cf]
 rw[Hw hs,Hw b] at h;unfold H2 at h;have ⟨q,p,m,o⟩:=rV (DZ hs f);have ⟨j,d,i,e⟩:=rV (DZ b g);grind
theorem FV (a:AutT) {s:Nat} (h:s<a.2.1.length): ∀j,(nth (cI a j) (s:Int)<0↔nth (live a) (s:Int)=false)/\(nth (cI a j) (s:Int)<0->nth (cI a j) (s:Int)= -1)
 | 0=>by
  grind[nth,cI,live,Xw,bJ]
 | j+1=>by
  have b:=FV a h j;grind[Cf,cI,trans]
theorem Xx (a:AutT) {s t:Nat} (hs:s<a.2.1.length) (b:t<a.2.1.length): ∀j,0<=nth (cI a j) (s:Int)->nth (cI a j) (s:Int)=nth (cI a j) (t:Int)->nth a.2.1 (s:Int)=nth a.2.1 (t:Int)
 | 0,h0,h=>by
  grind[nth,cI,live,Xw,bJ]
 | j+1,h0,h=>by
  have k:=R9 (c:=cI a j) hs b h0 h;have d:nth (cI a j) (s:Int)=nth (cI a j) (t:Int):=by
   injection k
  refine Xx a hs b j ?_ d
  have:=(Cf (c:=cI a j) hs).1
  grind[nth,cI,FU]
theorem Z2 (a:AutT) (j:Nat):Xv (cI a (j+1)) 0 (Er a (cI a j)):=Hv (keys a (cI a j)) []
theorem VV (a:AutT) {c:List Int} (e:c.length=a.2.1.length):adC c (keys a c):=by
 refine R8 _ _ (by rw[fZ,e]) fun i h f=>?_;have b:=(bJ h).symm;have d:(keys a c)[i] =H2 a c i:=by simp[keys]
 rw[b,d];unfold H2;by_cases k:nth c (i:Int)<0
 ·grind
 ·exact .inr ⟨by omega,_,by rw[if_neg k];rfl⟩
theorem Sa (a:AutT) (j:Nat):Er a (cI a j)<=Er a (cI a (j+1))/\(Er a (cI a (j+1))=Er a (cI a j)->cI a (j+2)=cI a (j+1)):=by
 have ⟨e,b⟩:=qR (cI a (j+1)) (keys a (cI a (j+1))) [] 0 (Er a (cI a j)) (VV a (sX a _)) (Z2 a j) (fun y c=>by cases c);exact ⟨by grind[Er],fun h=>b rfl (fun q d=>absurd d (Nat.not_lt_zero q)) h⟩
theorem acr {j k:Nat} (h:cI a (j+1)=cI a j) (b:j<=k):cI a k=cI a j:=by
 induction b with
 | refl=>rfl
 | step _ ih=>rw[cI,ih];exact h
theorem Sb {j k:Nat} (h:cI a (j+1)=cI a j) (b:cI a (k+1)=cI a k):cI a j=cI a k:=by
 grind[Nat.le_total,acr]
theorem Z3 (a:AutT): ∃j,j<=a.2.1.length/\cI a (j+1)=cI a j:=by
 by_cases e:cI a 1=cI a 0
 ·grind
 have d:1<=Er a (cI a 0):=by
  refine Nat.one_le_iff_ne_zero.2 fun k=>e ?_;have b: ∀s:Nat,s<a.2.1.length->nth (cI a 0) (s:Int)<0:=fun s l=>by
   grind[DZ,cI,List.length_pos_of_mem,Er]
  refine ZR (by grind[sX]) fun i c=>?_;rw[sX] at c;have f:=(FV a c 0).2 (b i c);have g:=(FV a c 1).2 (((FV a c 1).1.trans (FV a c 0).1.symm).2 (b i c));omega
 have key: ∀m,(∃j,j<=m/\cI a (j+1)=cI a j)\/m+1<=Er a (cI a m):=by
  intro m;induction m with
  | zero=>omega
  | succ m ih =>
   grind[Sa]
 rcases key a.2.1.length with h | h
 ·exact h
 grind[Lj,cI]
end
section
variable {a:AutT} {n:Nat} {c:List Int}
theorem Na (k:Nat) (s:Int):(List.range (k+1)).map (fun k=>ent a c s k)=(List.range k).map (fun k=>ent a c s k)++ [ent a c s k]:=by simp[List.range_succ]
theorem aej (V:VA a n) (e:n<=1000000) (g:c.length=n) {s:Nat} (hs:s<n):sv a c s=some (H1 a c s):=by
 unfold sv;rw[ai (by omega) (by omega)];simp only[aa]
 have:=aQ (f:=pE a c s) (fun k=>(nth c (s:Int)::(List.range k).map (fun k=>ent a c s k),(k:Int))) 9 (fun k b=>by
  have d:=V.mv (s:=s) (k:=k) (by omega) (by omega) b;unfold pE;simp only;rw[if_pos (by simp;omega),V.get (by omega) (by omega)];simp only[aa];rw[V.get2 (by omega) (by omega) b,Na];simp only[aa,ae (show k<9223372036854775807 by omega)];by_cases h:mv a s k<0
  ·rw[if_pos (by simpa using h),al (by simp;omega),show ent a c s k= -1 from by unfold ent;rw[if_pos h]];rfl
  ·rw[if_neg (by simpa using h),ai (by omega) (by omega)];simp only[aa];rw[al (by simp;omega),show ent a c s k=nth c (mv a s k) from by unfold ent;rw[if_neg h]];rfl) (by unfold pE;simp) (by unfold aR;omega)
 exact af this
theorem aek (V:VA a n) (i:n<=1000000) (j:c.length=n) {s:Nat} (hs:s<n):ah (dZ c (nth a.2.2 (s:Int))) aR (0,[nth c (s:Int)])=some (.brk (9,H1 a c s)):=by
 have d:=V.rowAt (s:=s) (by omega) (by omega);exact aQ (f:=dZ c (nth a.2.2 (s:Int))) (fun k=>((k:Int),nth c (s:Int)::(List.range k).map (fun k=>ent a c s k))) 9 (fun k b=>by
  have g:=V.mv (s:=s) (k:=k) (by omega) (by omega) b;unfold dZ;simp only;rw[if_pos (by simp[d];omega),V.get2 (by omega) (by omega) b,Na];simp only[aa,ae (show k<9223372036854775807 by omega)];by_cases h:mv a s k<0
  ·have e:mv a s k= -1:=by omega
   rw[if_neg (by simp;omega)];simp only[aa];rw[al (by simp;omega),show ent a c s k=mv a s k from by unfold ent;rw[if_pos h,e]];rfl
  ·rw[if_pos (by simp;omega),ai (by omega) (by omega)];simp only[aa];rw[al (by simp;omega),show ent a c s k=nth c (mv a s k) from by unfold ent;rw[if_neg h]];rfl) (by unfold dZ;simp[d]) (by unfold aR;omega)
theorem Jv {κ:Type} [DecidableEq κ] {l t r:List κ} {x:κ} (e:l=t++x::r) (b:x∉t):nbI l (some x)=(t.length:Int):=by
 subst e;simp only[nbI];rw[List.idxOf_append,if_neg b,List.idxOf_cons_self,Nat.zero_add]
def acu (l:List (List Int)) (x:List Int):Int:=if x∈l then nbI l (some x) else -1
theorem acv {l:List (List Int)} {x cs:List Int} {q:Int} (w:l.length<=1000000) (u:l.Nodup) (p: ∀y∈l,y.length<=1048576):ah (iH (l,cs,q) x) aR (-1,0)=some (.brk (acu l x,(l.length:Int))):=by
 have:=aQ (f:=iH (l,cs,q) x) (fun k=>(if x∈l.take k then nbI l (some x) else -1,(k:Int))) l.length (fun k d=>by
  unfold iH;simp only;rw[if_pos (by simp;omega),ai (by omega) (by omega)];simp only[aa,Int.toNat_natCast,ae (show k<9223372036854775807 by omega)];obtain ⟨r,e,i⟩:=AO (nth l (k:Int)) x (p _ (bG (by omega) (by omega)));rw[e,take_one d];simp only[aa,List.mem_append,List.mem_singleton];by_cases h:nth l (k:Int)=x
  ·have b:r=0:=i.2 h;have j:x∈l:=h ▸ bG (by omega) (by omega);obtain ⟨q,g,s,v⟩:=rV j
   have:q=k:=by
    have t:l[q]? =some x:=by rw[List.getElem?_eq_getElem g,v]
    have m:l[k]? =some x:=by rw[List.getElem?_eq_getElem d,<-bJ d,h]
    exact (List.getElem?_inj g u).1 (t.trans m.symm)
   subst this;rw[if_pos (by simp[b]),if_pos (.inr h.symm),s];rfl
  ·have b:r≠0:=fun e=>h (i.1 e);have o: ¬x=nth l (k:Int):=fun e=>h e.symm;rw[if_neg (by simpa using b)];simp[o]) (by unfold iH;simp) (mB (by omega))
 rw[List.take_of_length_le (ay _)] at this;exact this
theorem acw {l:List (List Int)} {x:List Int} {f:List Int->Option Bool} (r:l.length<=1000000) (j: ∀y∈l,f y=some (decide (y=x))):cC l f=some (acu l x):=by
 unfold cC;obtain ⟨o,e,m⟩:=bW (f:=di l f) (fun k s=>s=(k:Int)/\x∉l.take k) (fun o=>(x∈l/\o= .ret (nbI l (some x)))\/(x∉l/\ ∃s,o= .brk s)) l.length (s:=0) (by
  rintro k s q ⟨rfl,d⟩;unfold di;by_cases b:k<l.length
  ·rw[if_pos (by simp;omega),ai (by omega) (by omega)];simp only[aa];rw[j _ (bG (by omega) (by omega))];simp only[aa];by_cases h:nth l (k:Int)=x
   ·refine .inr ⟨_,by rw[if_pos (by simpa using h)],(fun p e=>by cases e),.inl ?_⟩;have i:x∈l:=h ▸ bG (by omega) (by omega);refine ⟨i,?_⟩;have e:l=l.take k++(x::l.drop (k+1)):=by
     rw[<-h,bJ b,<-List.drop_eq_getElem_cons b,List.take_append_drop]
    rw[Jv e d,az,Nat.min_eq_left (by omega)]
   ·refine .inl ⟨b,_,by rw[if_neg (by simpa using h)],by rw[ae (by omega)],?_⟩;rw[take_one b,List.mem_append,List.mem_singleton];rintro (g | g)
    ·exact d g
    ·exact h g.symm
  ·refine .inr ⟨_,by rw[if_neg (by simp;omega)],(fun p e=>by cases e),.inr ⟨?_,_,rfl⟩⟩;rwa [List.take_of_length_le (by omega)] at d) ⟨rfl,by simp⟩ (mB (by omega))
 unfold acu;rcases m with ⟨d,rfl⟩ | ⟨d,s,rfl⟩
 ·rw[aW e,if_pos d]
 ·rw[af e,if_neg d]
theorem D0 {os:List (Option (List Int))} (h: ∀y,some y∈os->y.length=10): ∀y∈nbS [] os,y.length=10:=fun y b=>by
 rcases AI.1 b with b | b
 ·cases b
 ·exact h y b
theorem FW (a:AutT) (c:List Int): ∀y,some y∈keys a c->y.length=10:=by
 intro y b;obtain ⟨s,-,e⟩:=List.mem_map.1 b;unfold H2 at e;split at e
 ·cases e
 ·rw[<-ad e];simp[H1]
section
variable (V:VA a n) (hn:n<=1000000) (hc:c.length=n)
include V hn hc
theorem Nb (s:Nat):(nbS [] ((keys a c).take s)).length<=n:=by
 have:=tL ([] :List (List Int)) ((keys a c).take s)
 rw[az,fZ,V.len] at this;simp at this;omega
theorem VW {m:Int} :ah (iI a (c,m)) aR ([],[],0)=some (.brk (nbS [] (keys a c),FU a c,(n:Int))):=by
 have d:=V.len
 have:=aQ (f:=iI a (c,m)) (fun s=>(nbS [] ((keys a c).take s),nbR [] ((keys a c).take s),(s:Int))) n (fun s g=>by
  have i:=Nb V hn hc s;have j:(nbR [] ((keys a c).take s)).length<=n:=by rw[jR,az,fZ];omega
  unfold iI;simp only;rw[if_pos (by simp;omega),ai (by omega) (by omega)];simp only[aa];rw[take_one (by rw[fZ];omega),zp,wq,Li (by omega)];simp only[ae (show s<9223372036854775807 by omega)];by_cases h:nth c (s:Int)<0
  ·rw[if_pos (by simpa using h),al (by simp;omega),show H2 a c s=none from by unfold H2;rw[if_pos h]];rfl
  ·rw[if_neg (by simpa using h),show H2 a c s=some (H1 a c s) from by unfold H2;rw[if_neg h]];rw[show sv (a.1,a.2.1,a.2.2) c (s:Int)=some (H1 a c s) from aej V hn hc g];simp only[aa];rw[af (acv (by omega) (vB (by simp)) (fun y b=>by rw[D0 (fun y b=>FW a c y (List.mem_of_mem_take b)) y b];decide))];simp only;unfold acu;by_cases k:H1 a c s∈nbS [] ((keys a c).take s)
   ·obtain ⟨q,o,e,l⟩:=rV k;rw[if_pos k,po k,e,if_neg (by simp)];simp only[aa];rw[al (by simp;omega)];rfl
   ·rw[if_neg k,pq k,Hu k,if_pos (show decide ((-1:Int)<0)=true from rfl),al (by simp;omega)];simp only[aa];rw[al (by simp;omega)];rfl) (by
  unfold iI;simp only;rw[if_neg (by simp;omega)]) (mB (by omega))
 rw[show (keys a c).take n=keys a c from List.take_of_length_le (by rw[fZ];omega)] at this;exact this
theorem VX:fq a c=some (FU a c,(Er a c:Int)):=by
 have d:=V.len;unfold fq
 have:=aQ (f:=fB a c) (fun s=>(nbS [] ((keys a c).take s),nbR [] ((keys a c).take s),(s:Int))) n (fun s g=>by
  have i:=Nb V hn hc s;have j:(nbR [] ((keys a c).take s)).length<=n:=by rw[jR,az,fZ];omega
  unfold fB;simp only;rw[if_pos (by simp;omega),ai (by omega) (by omega)];simp only[aa];rw[take_one (by rw[fZ];omega),zp,wq,Li (by omega)];simp only[ae (show s<9223372036854775807 by omega)];by_cases h:nth c (s:Int)<0
  ·rw[if_pos (by simpa using h),al (by simp;omega),show H2 a c s=none from by unfold H2;rw[if_pos h]];rfl
  ·rw[if_neg (by simpa using h),show H2 a c s=some (H1 a c s) from by unfold H2;rw[if_neg h],V.get (by omega) (by omega)];simp only[aa];rw[af (aek V hn hc g)];simp only;rw[acw (x:=H1 a c s) (by omega) (fun y b=>by
    unfold jS;rw[zA _ _ (by rw[D0 (fun y b=>FW a c y (List.mem_of_mem_take b)) y b];decide)];rfl)];simp only[aa]
   unfold acu;by_cases k:H1 a c s∈nbS [] ((keys a c).take s)
   ·obtain ⟨q,m,e,l⟩:=rV k;rw[if_pos k,po k,e,if_neg (by simp)];simp only[aa];rw[al (by simp;omega)];rfl
   ·rw[if_neg k,pq k,Hu k,if_pos (show decide ((-1:Int)<0)=true from rfl),al (by simp;omega)];simp only[aa];rw[al (by simp;omega)];rfl) (by
  unfold fB;simp only;rw[if_neg (by simp;omega)]) (mB (by omega))
 rw[show (keys a c).take n=keys a c from List.take_of_length_le (by rw[fZ];omega)] at this;exact af this
end
end
section
variable {a:AutT} {n:Nat} (V:VA a n) (hn:n<=1000000)
include V hn
theorem Jw (s:Nat):(List.range (s+1)).map (fun s:Nat=>if nth (live a) (s:Int)=true then (if nth a.2.1 (s:Int)=true then (1:Int) else 0) else -1)=(List.range s).map (fun s:Nat=>if nth (live a) (s:Int)=true then (if nth a.2.1 (s:Int)=true then 1 else 0) else -1)++ [if nth (live a) (s:Int)=true then (if nth a.2.1 (s:Int)=true then 1 else 0) else -1]:=by simp[List.range_succ]
theorem acx:ah (iG a (live a)) aR ([],0)=some (.brk (Xw a,(n:Int))):=by
 have b:=V.len;have c:(live a).length=n:=by rw[yc,b]
 have:=aQ (f:=iG a (live a)) (fun s=>((List.range s).map (fun s:Nat=>if nth (live a) (s:Int)=true then (if nth a.2.1 (s:Int)=true then (1:Int) else 0) else -1),(s:Int))) n (fun s d=>by
  unfold iG;simp only;rw[if_pos (by simp;omega),V.acc (by omega) (by omega)];simp only[aa];rw[Jw V hn,ai (xs:=live a) (by omega) (by omega)];simp only[ae (show s<9223372036854775807 by omega)];cases nth (live a) (s:Int) <;> cases nth a.2.1 (s:Int) <;> simp only[if_true,if_false,Bool.false_eq_true,aa] <;> rw[al (by simp;omega)] <;> rfl) (by
  unfold iG;simp only;rw[if_neg (by simp;omega)]) (mB (by omega))
 unfold Xw;rw[b];exact this
theorem acy:ah (dH a (live a)) aR ([],0)=some (.brk (Xw a,(n:Int))):=by
 have b:=V.len;have c:(live a).length=n:=by rw[yc,b]
 have:=aQ (f:=dH a (live a)) (fun s=>((List.range s).map (fun s:Nat=>if nth (live a) (s:Int)=true then (if nth a.2.1 (s:Int)=true then (1:Int) else 0) else -1),(s:Int))) n (fun s d=>by
  unfold dH;simp only;rw[if_pos (by simp;omega),ai (xs:=live a) (by omega) (by omega)];simp only[aa];rw[Jw V hn,V.acc (by omega) (by omega)];simp only[ae (show s<9223372036854775807 by omega)];cases nth (live a) (s:Int) <;> cases nth a.2.1 (s:Int) <;> simp only[if_true,if_false,Bool.false_eq_true,aa] <;> rw[al (by simp;omega)] <;> rfl) (by
  unfold dH;simp only;rw[if_neg (by simp;omega)]) (mB (by omega))
 unfold Xw;rw[b];exact this
theorem Sc: ∃J,cI a (J+1)=cI a J/\lM a=some (cI a J):=by
 have c:=V.len;unfold lM;rw[show nS (a.1,a.2.1,a.2.2)=some (live a) from Xr V hn];simp only[aa];rw[af (acx V hn)];obtain ⟨d,p,b⟩:=Z3 a;obtain ⟨o,e,j,rfl,i⟩:=bW (f:=nT a) (fun j s=>s=(cI a j,(j:Int))/\j<=d) (fun o=> ∃j,o= .ret (cI a j)/\cI a (j+1)=cI a j) (d+1) (s:=(cI a 0,0)) (by
  rintro j s i ⟨rfl,m⟩;have g:(cI a j).length=n:=by rw[sX,c]
  unfold nT;simp only;rw[if_pos (by simp;omega),af (VW V hn g)];simp only;obtain ⟨r,l,k⟩:=AO (FU a (cI a j)) (cI a j) (by rw[DY];omega);rw[l];simp only[aa,ae (show j<9223372036854775807 by omega)];by_cases h:FU a (cI a j)=cI a j
  ·exact .inr ⟨_,by rw[if_pos (by simpa using k.2 h)],(fun q e=>by cases e),j,rfl,h⟩
  ·refine .inl ⟨by omega,(cI a (j+1),((j+1:Nat):Int)),by rw[if_neg (by simpa using fun e=>h (k.1 e))];rfl,rfl,?_⟩;by_cases e:j=d
   ·subst e;exact absurd b h
   ·omega) ⟨rfl,Nat.zero_le _⟩ (mB (by omega))
 exact ⟨j,i,aW e⟩
theorem Sd: ∃J,cI a (J+1)=cI a J/\fa a=some (cI a J):=by
 have c:=V.len;unfold fa;rw[show gO (a.1,a.2.1,a.2.2)=some (live a) from acf V hn];simp only[aa];rw[af (acy V hn)];let b:Nat->Int:=fun j=>match j with | 0=> -1 | i+1=>(Er a (cI a i):Int)
 obtain ⟨o,e,j,rfl,l⟩:=bW (f:=iT a) (fun j s=>s=(cI a j,b j)/\(j:Int)<=b j+1) (fun o=> ∃j,o= .ret (cI a j)/\cI a (j+1)=cI a j) (n+2) (s:=(cI a 0,-1)) (by
  rintro j s l ⟨rfl,g⟩;have d:(cI a j).length=n:=by rw[sX,c]
  have m:=Lj a (cI a j);unfold iT;simp only;rw[show fq (a.1,a.2.1,a.2.2) (cI a j)=some (FU a (cI a j),(Er a (cI a j):Int)) from VX V hn d];simp only[aa];cases j with
  | zero =>
   refine .inl ⟨by omega,(cI a 1,b 1),by rw[if_neg (by show¬((Er a (cI a 0):Int) == -1)=true;simp)];rfl,rfl,?_⟩;show (1:Int)<=(Er a (cI a 0):Int)+1;omega
  | succ i =>
   obtain ⟨q,p⟩:=Sa a i;have k:b (i+1)=(Er a (cI a i):Int):=rfl;rw[k] at g⊢;by_cases h:Er a (cI a (i+1))=Er a (cI a i)
   ·refine .inr ⟨.ret (cI a (i+2)),by rw[if_pos (by simp[h])];rfl,(fun r e=>by cases e),i+2,rfl,?_⟩
    have:=p h
    show FU a (cI a (i+2))=cI a (i+2);rw[this];exact this
   ·refine .inl ⟨?_,(cI a (i+2),b (i+2)),by rw[if_neg (by simp;omega)];rfl,rfl,?_⟩
    ·omega
    ·show ((i+1+1:Nat):Int)<=(Er a (cI a (i+1)):Int)+1;omega) ⟨rfl,by show ((0:Nat):Int)<= -1+1;omega⟩ (mB (by omega))
 exact ⟨j,l,aW e⟩
theorem OS: ∃c,lM a=some c/\fa a=some c/\c.length=n/\FU a c=c/\ ∃j,c=cI a j:=by
 obtain ⟨J,d,e⟩:=Sc V hn;obtain ⟨g,b,f⟩:=Sd V hn
 have:=Sb d b
 exact ⟨cI a J,e,by rw[this];exact f,by rw[sX,V.len],d,J,rfl⟩
end
section
variable {κ:Type} [DecidableEq κ] [Inhabited κ] {nx:κ->List (Option κ)} {first:κ} {G:κ->Prop} {B N:Nat} {acc:κ->Bool}
theorem D1: ∀(l:List κ) (os:List (Option κ)),∀t∈nbR l os,-1<=t/\t<((nbS l os).length:Int)
 | l,[] =>fun t a=>by cases a
 | l,o::os=>fun t a=>by
  have hp:=om (nbL l o) os;have b:=hp.length_le;rcases aB a with rfl | a
  ·show -1<=nbI l o/\nbI l o<((nbS (nbL l o) os).length:Int);cases o with
   | none=>exact ⟨by simp[nbI],by simp only[nbI];omega⟩
   | some y =>
    by_cases c:y∈l
    ·obtain ⟨q,d,e,-⟩:=rV c;rw[po c] at b;rw[e];exact ⟨by omega,by rw[po c];omega⟩
    ·rw[pq c] at b;rw[Hu c];rw[au] at b;exact ⟨by omega,by rw[pq c];simp at b;omega⟩
  ·exact D1 (nbL l o) os t a
theorem acz (H:NumOk nx first G B) (c:bfE nx first N):VA ((0,(bfS nx first N).map acc,bfR nx first N):AutT) N:=by
 have f:0<N:=by
  have:=Jp (nx:=nx) (first:=first) N
  have:=(List.getElem?_eq_some_iff.1 this).1
  have:=c.1;omega
 have key: ∀i,i<=N-> ∀r∈bfR nx first i,r.length=9/\ ∀t∈r,-1<=t/\t<(N:Int):=by
  intro i;induction i with
  | zero=>intro _ r a;cases a
  | succ i ih =>
   intro d r a;have b:=c.2 i (by omega);rw[zq b] at a;rcases aI a with a | a
   ·exact ih (by omega) r a
   ·obtain rfl:=aq a;refine ⟨by rw[jR,H.len _ (nD H.g0 H.gn i _ (List.getElem_mem b))],fun t e=>?_⟩
    have:=D1 _ _ t e
    rw[<-Hn b] at this;have g:=(AJ (nx:=nx) (first:=first) d).length_le
    have:=c.1
    omega
 exact ⟨by show ((bfS nx first N).map acc).length=N;rw[List.length_map];exact c.1.symm,⟨Int.le_refl _,by show (0:Int)<N;omega⟩,mN c.2,fun r a=>(key N (ay _) r a).1,fun r a=>(key N (ay _) r a).2⟩
theorem Se (d: ∀x,(nx x).length=9) (b:bfE nx first N):VA ((0,(bfS nx first N).map acc,bfR nx first N):AutT) N:=by
 have g:0<N:=by
  have:=Jp (nx:=nx) (first:=first) N
  have:=(List.getElem?_eq_some_iff.1 this).1
  have:=b.1;omega
 have key: ∀i,i<=N-> ∀r∈bfR nx first i,r.length=9/\ ∀t∈r,-1<=t/\t<(N:Int):=by
  intro i;induction i with
  | zero=>intro _ r a;cases a
  | succ i ih =>
   intro e r a;have c:=b.2 i (by omega);rw[zq c] at a;rcases aI a with a | a
   ·exact ih (by omega) r a
   ·obtain rfl:=aq a;refine ⟨by rw[jR,d _],fun t f=>?_⟩
    have:=D1 _ _ t f
    rw[<-Hn c] at this;have h:=(AJ (nx:=nx) (first:=first) e).length_le
    have:=b.1
    omega
 exact ⟨by show ((bfS nx first N).map acc).length=N;rw[List.length_map];exact b.1.symm,⟨Int.le_refl _,by show (0:Int)<N;omega⟩,mN b.2,fun r a=>(key N (ay _) r a).1,fun r a=>(key N (ay _) r a).2⟩
end
theorem VA.self {a:AutT} {n:Nat} (v:VA a n):VA a a.2.1.length:=by
 have e:=v.len;subst e;exact v
theorem OT:VA nothing 1:=⟨rfl,⟨by decide,by decide⟩,rfl,fun r a=>by
 obtain rfl:=aq a
 decide,fun r a=>by
 obtain rfl:=aq a
 decide⟩
theorem Lk {κ:Type} [DecidableEq κ] {nx:κ->List (Option κ)} {first:κ} {acc:κ->Bool} {most:Nat} : ∀(f i:Nat),(∀j,j<i->j<(bfS nx first j).length)->(bfS nx first i).length<=most->goM nx first acc most f i=((0,[],[]),false)\/ ∃N,bfE nx first N/\N<=most/\goM nx first acc most f i=((0,(bfS nx first N).map acc,bfR nx first N),true)
 | 0,i,_,_=>.inl rfl
 | f+1,i,h,hl=>by
  have a:=R7 h;rw[goM];by_cases c:i<(bfS nx first i).length
  ·rw[if_pos c];by_cases d:(bfS nx first (i+1)).length>most
   ·rw[if_pos d];exact .inl rfl
   ·rw[if_neg d];exact Lk f (i+1) (fun j b=>by
     by_cases e:j=i
     ·subst e;exact c
     ·exact h j (by omega)) (by omega)
  ·rw[if_neg c];exact .inr ⟨i,⟨by omega,h⟩,by omega,by rw[List.take_of_length_le (by omega)]⟩
def afh (x:Tr Tok):Prop:= ∀(n:Nat) (p:FR),(flat x).length<=n->p.2.2.2.1.length=p.1.length->p.1.length+(flat x).length<=100000->
 ∃(nu:Bool) (fi la:Int) (q:FR),cP n p (flat x)=some ((nu,fi,la),q)/\q.2.2.2.1.length=q.1.length/\q.1.length<=p.1.length+(flat x).length
theorem VY {x:Tr Tok} (h:WT x):afh x:=by
 refine WT.ind (p:=afh) ?_ ?_ ?_ h
 ·intro t e n p c m f;rw[Ho] at c f⊢;simp[aw,aD] at f
  match n,c with
  | n+1,_ =>
   rw[cP]
   have:=(mm (A:=[]) (t:=t) (by simp)).1
   rw[List.nil_append] at this;rw[this];simp only[aa,fx];rcases oo (show 0<=ar t by omega) with ⟨k,_⟩ | ⟨k,_⟩ | ⟨_,k⟩
   ·omega
   ·omega
   rcases k with k | k | k
   ·exact ⟨false,0,0,p,by simp[k],m,by simp⟩
   ·exact ⟨true,0,0,p,by simp[k],m,by simp⟩
   ·refine ⟨false,yj 1 (p.1.length:Int),yj 1 (p.1.length:Int),(p.1++ [t.2.1],p.2.1,p.2.2.1,p.2.2.2.1++ [0],p.2.2.2.2),?_,by grind,by simp⟩;rw[if_neg (by simp[k]),if_pos (by simp[k]),al (by grind)];simp[aa];rw[al (by simp;omega)];rfl
 ·intro t a e O R n p c m f;rw[EY] at c f⊢;simp[au,aw,aD] at c f
  match n,c with
  | n+1,c =>
   rw[cP];simp only[fx];have ⟨E,C⟩:=mm (A:=flat a) (t:=t) (by omega);rw[E];simp only[aa];have ⟨o,z,v,q,D,g,H⟩:=R n p (by omega) m (by omega);rcases RS e with ⟨M,u⟩ | ⟨M,u,V⟩
   ·have s:(t.1==2)=false:=by simp[u]
    have y:(t.1==3)=false:=by simp[u]
    have B:(t.1==4)=false:=by simp[u]
    have r:(t.1==5)=false:=by simp[u]
    simp only[s,y,B,r,M,Bool.false_eq_true,if_false,if_true];rw[C,Int.toNat_natCast,List.take_left,kT (by grind)];simp only[aa];rw[D];simp only[aa,fx];rw[M7 (by omega)];simp only[aa];refine ⟨true,z,v,_,rfl,?_,?_⟩
    ·simp only[zz];exact g
    ·simp only[au,aw,aD];omega
   grind
 ·intro t a b e O P I J n p c m f;rw[zu] at c f⊢;have G:((flat a++flat b)++ [t]).length<=1000000:=by omega
  have ⟨Q,K,N,L⟩:=zx (a:=a) (t:=t) P G;simp only[au,aw,aD] at c f
  match n,c with
  | n+1,c =>
   have U:=O.pos;have T:=P.pos;rw[cP];simp only[fx];have ⟨E,C⟩:=mm (A:=flat a++flat b) (t:=t) (by grind);rw[E];simp only[aa];have ⟨o,z,v,q,D,g,H⟩:=I n p (by omega) m (by omega);have ⟨d,j,l,i,w,F,S⟩:=J n q (by omega) g (by omega);rcases oo (show 0<=ar t by omega) with ⟨_,k⟩ | ⟨k,_⟩ | ⟨k,_⟩
   ·rcases k with k | k
    ·have s:(t.1==2)=false:=by simp[k]
     have y:(t.1==3)=false:=by simp[k]
     have B:(t.1==4)=true:=by simp[k]
     have r:(t.1==5)=false:=by simp[k]
     simp only[s,y,B,r,Bool.false_eq_true,if_false,if_true];rw[C,Q,K,kT (by grind)];simp only[aa];rw[kT (by grind),N,L,D];simp only[aa];rw[kT (by simp only[au,aw,aD];omega)];simp only[aa,fx];rw[w];simp only[aa,fx];rw[M7 (by omega)];simp only[aa];refine ⟨o&&d,if o then orI z j else z,if d then orI v l else l,(i.1,i.2.1,i.2.2.1,lk i.2.2.2.1 v j i.2.2.2.1.length,i.2.2.2.2),?_,?_,?_⟩
     ·cases o <;> cases d <;> rfl
     ·grind[zz]
     grind
    ·have s:(t.1==2)=false:=by simp[k]
     have y:(t.1==3)=false:=by simp[k]
     have B:(t.1==4)=false:=by simp[k]
     have r:(t.1==5)=true:=by simp[k]
     simp only[s,y,B,r,Bool.false_eq_true,if_false,if_true];rw[C,Q,K,kT (by grind)];simp only[aa];rw[kT (by grind),N,L,D];simp only[aa];rw[kT (by simp only[au,aw,aD];omega)];simp only[aa,fx];rw[w];simp only[aa,fx];refine ⟨o || d,orI z j,orI v l,i,?_,F,?_⟩
     ·cases o <;> simp
     grind
   ·omega
   ·omega
theorem Sf {e:List Tok} (b:e.length<=1048576):jO e=some (M2 e):=by
 have g:=qQ;unfold jO M2;rw[DT b];by_cases c:(decide (e.length<=24)&&isX e)=true
 ·rw[aj] at c;obtain ⟨x,f,a,rfl⟩:=MZ c.2;have d:(flat x).length<=24:=by simpa using c.1
  rw[wt a,Xo a gj (by omega) (by omega)];by_cases h:5000<szX x
  ·grind
  ·grind[DV,M0,gj]
 grind
theorem Ll {e:List Tok} (g:e.length<=1048576): ∃r:FR×Bool,dU e=some r/\r.1.2.2.2.1.length=r.1.1.length/\r.1.1.length<=400:=by
 have l:=qQ;unfold dU;rw[Sf g];simp only[aa];by_cases c:(M2 e).2=true
 ·have ⟨y,b,h,n⟩:=RW c;rw[if_pos c,af (aco (by grind))];by_cases d:(M9 (M2 e).1 (M2 e).1.length:Int)>20
  ·simp_all
  ·have i:=decide_eq_false d;simp only[i,Bool.false_eq_true,if_false];rw[h];have ⟨o,k,m,q,f,a,j⟩:=VY b gj ([],0,0,[],false) (by omega) rfl (by grind);rw[f];simp[aa];grind
 simp_all
theorem Si {p:FR} (h1:p.2.2.2.1.length=p.1.length) (c:p.1.length<=100000): ∃r:AutT×Bool,fF p 12=some r/\(r.2=true-> ∃N,N<=12/\bfE (nxS p) 1 N/\r.1=(0,(bfS (nxS p) 1 N).map (vC p),bfR (nxS p) 1 N)/\VA r.1 N):=by
 have d:=acn (p:=p) (most:=12) h1 (by omega) (by omega) (by omega);rcases Lk (nx:=nxS p) (first:=1) (acc:=vC p) (most:=12) (12+2) 0 (fun j f=>by omega) (by simp[bfS]) with e | ⟨N,b,a,e⟩
 ·grind
 grind[Se,vC,DX]
def Nc:List ByteArray:=[⟨#[97]⟩,⟨#[97,32,98,32,46]⟩,⟨#[97,32,42]⟩,⟨#[97,32,98,32,124,32,42]⟩,⟨#[97,32,97,45,32,46]⟩,⟨#[97,32,42,32,98,32,46]⟩,⟨#[97,32,98,32,42,32,46,32,99,32,46]⟩,⟨#[97,32,97,32,124,32,42]⟩,⟨#[97,32,98,32,46,32,42]⟩,⟨#[48,32,97,32,46,32,42]⟩,⟨#[97,32,49,32,46,32,98,32,46]⟩,⟨#[97,32,123,48,44,50,125]⟩,⟨#[97,32,98,32,124,32,123,49,44,51,125]⟩,⟨#[40,41]⟩,⟨#[33]⟩,⟨#[97,45,32,42,32,97,32,46]⟩,⟨#[97,32,98,45,32,46,32,42,32,99,32,124]⟩,⟨#[97,32,42,32,97,32,42,32,46]⟩,⟨#[97,32,48,32,124,32,42,32,98,32,46]⟩,⟨#[97,32,97,32,46,32,42]⟩,⟨#[97,32,98,32,46,32,98,32,97,32,46,32,124,32,42]⟩]
def Sj (t:ByteArray):Bool:=match lj t with
 | some r=>r.2&&Nat.ble 1 r.1.length&&Nat.ble r.1.length 24
 | none=>false
theorem Sk:Nc.all Sj=true:=by kernel_rfl
theorem VZ {t:ByteArray} (h:t∈Nc): ∃r:List Tok×Bool,lj t=some r/\r.2=true/\1<=r.1.length/\r.1.length<=24:=by
 have a:Sj t=true:=List.all_eq_true.1 Sk t h;unfold Sj at a;split at a
 ·rename_i r b;rw[aj,aj] at a;exact ⟨r,b,a.1.1,bB a.1.2,bB a.2⟩
 ·cases a
section
variable {xs:List Int} {i h:Int}
theorem Lm (f:xs.length<=1048576) (m:jE xs i): ∃r:List Tok×Int×Int,nU (xs,i,h)=some r/\(1<=r.1.length/\r.1.length<=24)/\jE xs r.2.1:=by
 obtain ⟨r,e,b,k⟩:=ab8 (h:=h) f m (l:=Nc) (by unfold Nc;simp);obtain ⟨q,d,-,c⟩:=VZ b;unfold nU;have j:=congrArg (fun o:Option (ByteArray×Int×Int)=>Option.bind o (fun a:ByteArray×Int×Int=>(lj a.1).bind fun g=>some (g.1,a.2.1,a.2.2))) e;refine ⟨(q.1,r.2.1,r.2.2),j.trans ?_,c,k⟩;show (lj r.1).bind _=_;rw[d];rfl
theorem Jx (a:xs.length<=1048576): ∀(d n:Nat) (i h:Int),d<n->d<=3->jE xs i-> ∃r:List Tok×Int×Int,ff n (xs,i,h) (d:Int)=some r/\(1<=r.1.length/\r.1.length+1<=2 ^ (d+1))/\jE xs r.2.1
 | 0,n+1,i,h,_,_,f=>by
  rw[ff];simp only;rw[if_pos (by decide)];obtain ⟨r,e,k⟩:=zr (h:=h) a f (n:=12) (by omega);rw[e];simp only[aa];by_cases c:r.1=true
  ·rw[if_pos c];obtain ⟨q,s,-,j⟩:=fc (h:=r.2.2) a k (l:=[1,2]) (by simp);rw[s];simp only[aa];exact ⟨_,rfl,⟨ay _,ay _⟩,j⟩
  ·rw[if_neg c];obtain ⟨q,s,-,j⟩:=fc (h:=r.2.2) a k (l:=[0,0,2,2,1,4,3,6,7]) (by simp);rw[s];simp only[aa];exact ⟨_,rfl,⟨ay _,ay _⟩,j⟩
 | d+1,n+1,i,h,hd,h3,f=>by
  have hp:2 ^ (d+1+1)=2*2 ^ (d+1):=by rw[Nat.pow_succ,Nat.mul_comm]
  have K:2 ^ (d+1)<=8:=by
   have:d<=2:=by omega
   match d,this with
   | 0,_=>decide
   | 1,_=>decide
   | 2,_=>decide
  rw[ff];simp only;rw[if_neg (by simp;omega)];have I:i64.wrap (((d+1:Nat):Int) - 1)=(d:Int):=by rw[bd (by omega) (by omega)];omega
  rw[I];obtain ⟨r,e,-,k⟩:=bN (h:=h) a f (n:=6) (by omega);rw[e];simp only[aa];have two: ∀(t:Tok) (i h:Int),jE xs i-> ∃r:List Tok×Int×Int,((ff n (xs,i,h) (d:Int)).bind fun b=>(ff n (xs,b.2.1,b.2.2) (d:Int)).bind fun x=>(fH b.1 x.1 t).bind fun E=>some (E,x.2.1,x.2.2))=some r/\(1<=r.1.length/\r.1.length+1<=2 ^ (d+1+1))/\jE xs r.2.1:=fun t i h f=>by
   obtain ⟨b,m,A,v⟩:=Jx a d n i h (by omega) (by omega) f;rw[m];simp only[aa];obtain ⟨x,D,L,F⟩:=Jx a d n b.2.1 b.2.2 (by omega) (by omega) v;rw[D];simp only[aa];rw[DW (by omega)];simp only[aa];refine ⟨_,rfl,?_,F⟩;simp only[au,aw,aD];omega
  have one: ∀(t:Tok) (i h:Int),jE xs i-> ∃r:List Tok×Int×Int,((ff n (xs,i,h) (d:Int)).bind fun g=>(fH g.1 ([] :List Yq1) t).bind fun y=>some (y,g.2.1,g.2.2))=some r/\(1<=r.1.length/\r.1.length+1<=2 ^ (d+1+1))/\jE xs r.2.1:=fun t i h f=>by
   obtain ⟨b,m,A,v⟩:=Jx a d n i h (by omega) (by omega) f;rw[m];simp only[aa];rw[DW (by simp only[aD];omega)];simp only[aa];refine ⟨_,rfl,?_,v⟩;simp only[au,aw,aD];omega
  have o: ∀(p q:Bool),(if p then (some p) else (some q):Option Bool)=some (p || q):=fun p q=>by cases p <;> rfl
  rw[o];simp only[aa];by_cases B:(r.1==0 || r.1==1)=true
  ·rw[if_pos B];exact two _ _ _ k
  ·rw[if_neg B,o];simp only[aa];by_cases z:(r.1==2 || r.1==3)=true
   ·rw[if_pos z];exact two _ _ _ k
   ·rw[if_neg z];by_cases C:(r.1==4)=true
    ·rw[if_pos C];exact one _ _ _ k
    ·rw[if_neg C];obtain ⟨q,s,J,j⟩:=bN (h:=r.2.2) a k (n:=3) (by omega);rw[s];simp only[aa];obtain ⟨b,m,A,v⟩:=Jx a d n q.2.1 q.2.2 (by omega) (by omega) j;rw[m];simp only[aa];have w:i64.wrap (i64.wrap (1+q.1)+1)=q.1+2:=by
      rw[bd (n:=1+q.1) (by omega) (by omega),bd (by omega) (by omega)];omega
     obtain ⟨u,H,-,G⟩:=bN (h:=b.2.2) a v (n:=q.1+2) (by omega);rw[w,H];simp only[aa];rw[DW (by simp only[aD];omega)];simp only[aa];refine ⟨_,rfl,?_,G⟩;simp only[au,aw,aD];omega
theorem acA (b:xs.length<=1048576) (l:jE xs i): ∃r:List Tok×Int×Int,vY (xs,i,h)=some r/\(1<=r.1.length/\r.1.length<=24)/\jE xs r.2.1:=by
 have p:=qQ;unfold vY;simp only;obtain ⟨r,e,k⟩:=zr (h:=h) b l (n:=2) (by omega);rw[e];simp only[aa];by_cases c:r.1=true
 ·rw[if_pos c];obtain ⟨q,f,g,d⟩:=Lm (h:=r.2.2) b k;rw[f];exact ⟨_,rfl,g,d⟩
 ·rw[if_neg c];obtain ⟨q,f,g,d⟩:=bN (h:=r.2.2) b k (n:=3) (by omega);rw[f];simp only[aa];have w:i64.wrap (1+q.1)=(((q.1.toNat+1:Nat)):Int):=by rw[bd (by omega) (by omega)];omega
  obtain ⟨u,o,j,m⟩:=Jx b (q.1.toNat+1) gj q.2.1 q.2.2 (by omega) (by omega) d;rw[w,o];refine ⟨_,rfl,⟨j.1,?_⟩,m⟩
  have:q.1.toNat<=2:=by omega
  have a:=j.2;show u.1.length<=24;generalize q.1.toNat=z at this a
  match z,this with
  | 0,_=>simp at a;omega
  | 1,_=>simp at a;omega
  | 2,_=>simp at a;omega
def AutD (a:AutT):Prop:=(1<=a.2.1.length/\a.2.1.length<=12)/\(1<=a.2.2.length/\a.2.2.length<=12)/\ ∀r∈a.2.2,r.length=9
theorem AutD.sm {a:AutT} (h:AutD a):Data.sm a:=⟨trivial,⟨by have:=h.1.2;omega,fun _ _=>trivial⟩,by have:=h.2.1.2;omega,fun r b=>⟨by rw[h.2.2 r b];decide,fun _ _=>trivial⟩⟩
theorem VA.autD {a:AutT} {n:Nat} (V:VA a n) (e:n<=12):AutD a:=by
 have b:=V.pos;have c:=V.len;have d:=V.nlen;exact ⟨by omega,by omega,V.row⟩
theorem ael (y:xs.length<=1048576) {p:List Int×Int×Int} {r0:Int×Int×Int} (hp:p.1=xs) (C:0<=r0.1/\r0.1<4) (A:jE xs i): ∃s,ah (jJ p r0) aR (([] :List Int),0,i,h)=some (.brk s)/\s.1.length=9/\jE xs s.2.2.1:=by
 have w:i64.wrap (1+r0.1)=1+r0.1:=bd (by omega) (by omega);obtain ⟨s,e,x,v,o⟩:=fb (f:=jJ p r0) (fun j s=>s.2.1=(j:Int)/\s.1.length=j/\jE xs s.2.2.1) 9 (fun j s B g=>by
  obtain ⟨x,v,o⟩:=g;unfold jJ;rw[x,hp,if_pos (by simp;omega)];obtain ⟨r,e,k⟩:=zr (h:=s.2.2.2) y o (n:=3) (by omega);rw[e];simp only[aa];have key: ∃q:Int×Int×Int,(if r.1 then (some ((-1),r.2.1,r.2.2)) else ((aN (xs,r.2.1,r.2.2) (i64.wrap (1+r0.1))).bind fun u=>some (u.1,u.2.1,u.2.2)):Option Yq8)=some q/\jE xs q.2.1:=by
   by_cases c:r.1=true
   ·rw[if_pos c];exact ⟨_,rfl,k⟩
   ·rw[if_neg c,w];obtain ⟨q,t,-,l⟩:=bN (h:=r.2.2) y k (n:=1+r0.1) (by omega);rw[t];exact ⟨_,rfl,l⟩
  obtain ⟨q,t,l⟩:=key;rw[t];simp only[aa];have m: ∃z:Int,(if decide ((j:Int)>3) then (some (-1)) else (some q.1):Option Int)=some z:=by
   by_cases c:decide ((j:Int)>3)=true
   ·exact ⟨_,if_pos c⟩
   ·exact ⟨_,if_neg c⟩
  obtain ⟨z,m⟩:=m;rw[m];simp only[aa];rw[al (by simp only[aw,aD];omega)];simp only[aa];refine ⟨_,rfl,?_,?_,l⟩
  ·show i64.wrap ((j:Int)+1)=((j+1:Nat):Int);rw[bd (by omega) (by omega)];omega
  ·simp only[au,aw,aD];omega) (fun s g=>by
  unfold jJ;rw[g.1,if_neg (by simp)];obtain ⟨a,b,c,d⟩:=s;obtain rfl:b=_:=g.1
  rfl) (s:=(([] :List Int),0,i,h)) ⟨rfl,rfl,A⟩ (mB (by omega))
 exact ⟨s,e,v,o⟩
theorem Nd (d:xs.length<=1048576) (E:jE xs i): ∃r:AutT×Int×Int,ng (xs,i,h)=some r/\AutD r.1/\jE xs r.2.1:=by
 unfold ng;simp only;obtain ⟨r0,y,F,A⟩:=bN (h:=h) d E (n:=4) (by omega);rw[y];simp only[aa];have w:i64.wrap (1+r0.1)=((r0.1.toNat+1:Nat):Int):=by rw[bd (by omega) (by omega)];omega
 obtain ⟨t,C,-,z⟩:=bN (h:=r0.2.2) d A (n:=((r0.1.toNat+1:Nat):Int)) (by omega);rw[w,C];simp only[aa];obtain ⟨s,e,v,u,x,m,l⟩:=fb (f:=lZ (xs,i,h) r0) (fun j s=>s.1=(j:Int)/\s.2.2.1.length=j/\s.2.2.2.1.length=j/\(∀r∈s.2.2.2.1,r.length=9)/\jE xs s.2.2.2.2.1) (r0.1.toNat+1) (fun j s H g=>by
  obtain ⟨v,u,x,m,l⟩:=g;unfold lZ;rw[v,w,if_pos (by simp;omega)];obtain ⟨q,e,D,k⟩:=ael (p:=(xs,i,h)) (r0:=r0) (i:=s.2.2.2.2.1) (h:=s.2.2.2.2.2) d rfl F l;rw[af e];simp only;obtain ⟨o,G,B⟩:=zr (h:=q.2.2.2) d k (n:=3) (by omega);rw[G];simp only[aa];rw[al (by simp only[aw,aD];omega)];simp only[aa];rw[al (by simp only[aw,aD];omega)];simp only[aa];refine ⟨_,rfl,?_,by simp[u],by simp[x],fun r c=>?_,B⟩
  ·show i64.wrap ((j:Int)+1)=((j+1:Nat):Int);rw[bd (by omega) (by omega)];omega
  ·rcases aI c with c | c
   ·exact m r c
   ·obtain rfl:=aq c;exact D) (fun s g=>by
  unfold lZ;rw[g.1,w,if_neg (by simp)];obtain ⟨a,b⟩:=s;obtain rfl:a=_:=g.1
  rfl) (s:=(0,t.1,([] :List Bool),([] :List (List Int)),t.2.1,t.2.2)) ⟨rfl,rfl,rfl,fun r c=>(by cases c),z⟩ (mB (by omega))
 rw[af e];refine ⟨_,rfl,⟨?_,?_,m⟩,l⟩
 ·show 1<=s.2.2.1.length/\s.2.2.1.length<=12;omega
 ·show 1<=s.2.2.2.1.length/\s.2.2.2.1.length<=12;omega
theorem aem (d:xs.length<=1048576) (w:jE xs i): ∃r:AutT×Int×Int,vZ (xs,i,h)=some r/\AutD r.1/\jE xs r.2.1:=by
 unfold vZ;simp only;obtain ⟨r,e,k⟩:=zr (h:=h) d w (n:=3) (by omega);rw[e];simp only[aa];by_cases c:r.1=true
 ·rw[if_pos c];obtain ⟨q,j,l,b⟩:=Nd (h:=r.2.2) d k;rw[j];exact ⟨_,rfl,l,b⟩
 ·rw[if_neg c];obtain ⟨q,j,l,b⟩:=acA (h:=r.2.2) d k;rw[j];simp only[aa];obtain ⟨p,x,y,z⟩:=Ll (e:=q.1) (by omega);rw[x];simp only[aa];obtain ⟨a,g,s⟩:=Si (p:=p.1) y (by omega);have g:fF (p.1.1,p.1.2.1,p.1.2.2.1,p.1.2.2.2.1,p.1.2.2.2.2) 12=some a:=g;rw[g];simp only[aa];by_cases f:a.2=true
  ·rw[if_pos f];obtain ⟨N,o,-,-,V⟩:=s f;exact ⟨_,rfl,V.autD o,b⟩
  ·rw[if_neg f];obtain ⟨u,v,m,t⟩:=Nd (h:=q.2.2) d b;rw[v];exact ⟨_,rfl,m,t⟩
end
abbrev GrT:=(List Int)×(List Yq1)
theorem Ln {R:Type} {f:Int->Option (Out R Int)} (N:Nat) (p:Nat->Prop) [DecidablePred p] (r:R) (d:N<=9223372036854775807)
  (h: ∀i:Nat,i<N->f (i:Int)=some (if p i then .nxt ((i+1:Nat):Int) else .ret r)) (g:f (N:Int)=some (.brk (N:Int))) :
  (ah f aR 0=some (.brk (N:Int))/\ ∀i,i<N->p i)\/(ah f aR 0=some (.ret r)/\ ¬ ∀i,i<N->p i):=by
 obtain ⟨o,e,a⟩:=bW (f:=f) (fun i s=>s=(i:Int)/\ ∀j:Nat,j<i->p j) (fun o=>(o= .brk (N:Int)/\ ∀i,i<N->p i)\/(o= .ret r/\ ¬ ∀i,i<N->p i)) N (s:=0) (by
  rintro i s n ⟨rfl,hp⟩;by_cases b:i<N
  ·by_cases c:p i
   ·refine .inl ⟨b,_,by rw[h i b,if_pos c],rfl,fun j m=>?_⟩;by_cases e:j=i
    ·subst e;exact c
    ·exact hp j (by omega)
   ·exact .inr ⟨_,by rw[h i b,if_neg c],(fun k e=>by cases e),.inr ⟨rfl,fun l=>c (l i b)⟩⟩
  ·obtain rfl:i=N:=by omega
   exact .inr ⟨_,g,(fun k e=>by cases e),.inl ⟨rfl,hp⟩⟩) ⟨rfl,by omega⟩ (mB d)
 rcases a with ⟨rfl,a⟩ | ⟨rfl,a⟩
 ·exact .inl ⟨e,a⟩
 ·exact .inr ⟨e,a⟩
structure GOk (g:GrT):Prop where
 n1:1<=g.1.length
 n5:g.1.length<=5
 m:g.2.length<=12
 val: ∀v∈g.1,0<=v/\v<=2
 edge: ∀e∈g.2,(0<=e.2.1/\e.2.1<g.1.length)/\(0<=e.2.2.1/\e.2.2.1<g.1.length)/\0<=e.2.2.2/\e.2.2.2<=2
 asc: ∀i:Nat,i+1<g.2.length->(nth g.2 i).1<(nth g.2 ((i+1:Nat):Int)).1
def edgeP (e:Int×Int×Int×Int) (n:Int):Prop:=(1<=e.1/\e.1<=99)/\(0<=e.2.1/\e.2.1<=n - 1)/\(0<=e.2.2.1/\e.2.2.1<=n - 1)/\0<=e.2.2.2/\e.2.2.2<=2
instance (e n):Decidable (edgeP e n):=by unfold edgeP;infer_instance
theorem Xy (e:Int×Int×Int×Int) {n:Nat} (d:n<=1048576):ln e (n:Int)=some (decide (edgeP e n)):=by
 unfold ln edgeP;simp only[Ep,aa,fw (show n<=9223372036854775807 by omega)];by_cases b:1<=e.1/\e.1<=99 <;> by_cases c:0<=e.2.1/\e.2.1<=(n:Int) - 1 <;> by_cases a:0<=e.2.2.1/\e.2.2.1<=(n:Int) - 1 <;> simp[b,c,a]
def Xz (g:GrT):Prop:=GOk g/\ ∀e∈g.2,1<=e.1/\e.1<=99
theorem rv (g:GrT) (h1:g.1.length<=1048576) (A:g.2.length<=1048576): ∃b,bf g=some b/\(b=true↔Xz g):=by
 unfold bf;have j:=Ln (f:=fO g) g.1.length (fun i=>0<=nth g.1 i/\nth g.1 i<=2) false (by omega) (fun i a=>by
  unfold fO;rw[if_pos (by simp;omega),ai (by omega) (by omega)];simp only[aa,Ep,decide_eq_true_eq];split
  ·rw[ae (by omega)]
  ·rfl) (by unfold fO;rw[if_neg (by simp)])
 have d:=Ln (f:=eF g) g.2.length (fun i=>edgeP (nth g.2 i) g.1.length/\(0<i->(nth g.2 ((i:Int) - 1)).1<(nth g.2 i).1)) false (by omega) (fun i a=>by
  unfold eF;rw[if_pos (by simp;omega),ai (by omega) (by omega)];simp only[aa];have k:=Xy (nth g.2 (i:Int)) h1;have k:ln ((nth g.2 (i:Int)).1,(nth g.2 (i:Int)).2.1,(nth g.2 (i:Int)).2.2.1,(nth g.2 (i:Int)).2.2.2) (g.1.length:Int)=_:=k;rw[k];simp only[aa,decide_eq_true_eq];by_cases l:edgeP (nth g.2 (i:Int)) g.1.length
  ·rw[if_pos l];by_cases r:0<i
   ·rw[if_pos (by omega),fw (by omega),ai (by omega) (by omega)];simp only[aa];by_cases s:(nth g.2 ((i:Int) - 1)).1<(nth g.2 (i:Int)).1
    ·rw[if_neg (by omega),if_pos ⟨l,fun _=>s⟩,ae (by omega)]
    ·rw[if_pos (by omega),if_neg (fun h=>s (h.2 r))]
   ·rw[if_neg (by omega),if_pos ⟨l,fun h=>absurd h r⟩,ae (by omega)]
  ·rw[if_neg l,if_neg (fun h=>l h.1)]) (by unfold eF;rw[if_neg (by simp)])
 rcases j with ⟨j,o⟩ | ⟨j,o⟩
 ·rw[af j];rcases d with ⟨d,m⟩ | ⟨d,m⟩
  ·rw[af d,Ep];simp only[aa,decide_eq_true_eq];split
   ·rename_i c;refine ⟨_,rfl,fun q=>?_,fun G=>decide_eq_true (by have:=G.1.m;omega)⟩;have q:=of_decide_eq_true q;refine ⟨⟨by omega,by omega,by omega,fun v hv=>?_,fun e n=>?_,fun i a=>?_⟩,fun e n=>?_⟩
    rotate_left 3
    ·obtain ⟨i,a,rfl⟩:=DQ n;exact (m i a).1.1
    ·obtain ⟨i,a,rfl⟩:=DQ hv;exact o i a
    ·obtain ⟨i,a,rfl⟩:=DQ n;obtain ⟨B,x,t,w⟩:=(m i a).1;exact ⟨⟨x.1,by omega⟩,⟨t.1,by omega⟩,w⟩
    ·have:=(m (i+1) a).2 (by omega)
     rwa [show (((i+1:Nat):Int) - 1)=(i:Int) from by omega] at this
   ·rename_i c;exact ⟨false,rfl,(fun h=>by cases h),fun G=>absurd (by have:=G.1.n1;have:=G.1.n5;omega) c⟩
  ·rw[aW d];refine ⟨false,rfl,(fun h=>by cases h),fun G=>absurd (fun i a=>?_) m⟩;have p:=bG (xs:=g.2) (i:=(i:Int)) (by omega) (by omega);obtain ⟨k,y,z,u⟩:=G.1.edge _ p;refine ⟨⟨G.2 _ p,⟨k.1,by omega⟩,⟨y.1,by omega⟩,z,u⟩,fun C=>?_⟩
   have:=G.1.asc (i - 1) (by omega)
   rwa [show ((i - 1:Nat):Int)=(i:Int) - 1 from by omega,show (((i - 1)+1:Nat):Int)=(i:Int) from by omega] at this
 ·rw[aW j];exact ⟨false,rfl,(fun h=>by cases h),fun G=>absurd (fun i a=>G.1.val _ (bG (by omega) (by omega))) o⟩
theorem Nf (g:GrT) (h1:g.1.length<=1048576) (a:g.2.length<=1048576): ∃b,bf g=some b/\(b=true->GOk g):=by
 obtain ⟨b,h1,a⟩:=rv g h1 a;exact ⟨b,h1,fun h=>(a.1 h).1⟩
theorem GOk.lt {g:GrT} (G:GOk g) {i j:Nat} (h:i<j) (a:j<g.2.length):(nth g.2 (i:Int)).1<(nth g.2 (j:Int)).1:=by
 induction h with
 | refl=>exact G.asc i a
 | step h ih =>
  rename_i m;have b:=ih (by omega);have c:=G.asc m a;exact Int.lt_trans b c
section
variable {xs:List Int} {i h:Int}
theorem acB (q:xs.length<=1048576) {p:List Int×Int×Int} (hp:p.1=xs) (o:jE xs i) {n:Int} (t:0<=n/\n<=5): ∃s:Int×Int×Int×List Int×List Yq1,ah (eO p) aR (n,i,h,([] :List Int),([] :List Yq1))=some (.brk s)/\s.2.2.2.1.length=n.toNat/\s.2.2.2.2= [] /\jE xs s.2.1:=by
 obtain ⟨s,e,m,d,l,g⟩:=fb (f:=eO p) (fun j s=>s.1=n - (j:Int)/\s.2.2.2.1.length=j/\s.2.2.2.2= [] /\jE xs s.2.1) n.toNat (fun j s u c=>by
  obtain ⟨m,d,l,g⟩:=c;unfold eO;rw[m,hp,if_pos (by simp;omega)];obtain ⟨r,e,-,k⟩:=bN (h:=s.2.2.1) q g (n:=3) (by omega);rw[e];simp only[aa];rw[al (by simp only[aw,aD];omega)];simp only[aa];refine ⟨_,rfl,?_,by simp[d],l,k⟩;show i64.wrap (n - (j:Int) - 1)=n - ((j+1:Nat):Int);rw[bd (by omega) (by omega)];omega) (fun s c=>by
  unfold eO;rw[c.1,if_neg (by simp;omega)];obtain ⟨a,b⟩:=s;obtain rfl:a=_:=c.1
  rfl) (s:=(n,i,h,([] :List Int),([] :List Yq1))) ⟨by show n=n - 0;omega,rfl,rfl,o⟩ (mB (by omega))
 exact ⟨s,e,d,l,g⟩
def GrD (g:GrT):Prop:=(1<=g.1.length/\g.1.length<=5)/\g.2.length<=11
theorem GrD.sm {g:GrT} (h:GrD g):Data.sm g:=⟨⟨by have:=h.1.2;omega,fun _ _=>trivial⟩,by have:=h.2;omega,fun _ _=>⟨trivial,trivial,trivial,trivial⟩⟩
theorem Z4 (m:xs.length<=1048576) (O:jE xs i): ∃r:GrT×Int×Int,kA (xs,i,h)=some r/\GrD r.1/\jE xs r.2.1:=by
 unfold kA;simp only;obtain ⟨t,D,A,G⟩:=fc (h:=h) m O (l:=[2,3,4,4,5]) (by simp);rw[D];simp only[aa];have A:2<=t.1/\t.1<=5:=by simp at A;omega
 obtain ⟨s,e,W,C,Q⟩:=acB (p:=(xs,i,h)) (h:=t.2.2) m rfl G (n:=t.1) (by omega);rw[af e];obtain ⟨k,y,o,v⟩:=fc (h:=s.2.2.1) m Q (l:=[4,8,11]) (by simp);rw[y];simp only[aa];have o:4<=k.1/\k.1<=11:=by simp at o;omega
 obtain ⟨g,x,R,w⟩:=bN (h:=k.2.2) m v (n:=k.1) (by omega);rw[x];simp only[aa];obtain ⟨q,V,Z,K,X,T⟩:=fb (f:=ij (xs,i,h)) (fun j z=>z.2.1=g.1 - (j:Int)/\z.2.2.2.2.1=s.2.2.2.1/\z.2.2.2.2.2.length=j/\jE xs z.2.2.1) g.1.toNat (fun j z Y u=>by
  obtain ⟨S,N,J,U⟩:=u;unfold ij;rw[S,N,if_pos (by simp;omega)];obtain ⟨a,M,-,F⟩:=bN (h:=z.2.2.2.1) m U (n:=3) (by omega);rw[M];simp only[aa];obtain ⟨b,L,-,H⟩:=bN (h:=a.2.2) m F (n:=(s.2.2.2.1.length:Int)) (by omega);rw[L];simp only[aa];obtain ⟨c,B,-,E⟩:=bN (h:=b.2.2) m H (n:=(s.2.2.2.1.length:Int)) (by omega);rw[B];simp only[aa];obtain ⟨d,P,-,I⟩:=fc (h:=c.2.2) m E (l:=[0,0,1,2]) (by simp);rw[P];simp only[aa];rw[al (by simp only[aw,aD];omega)];simp only[aa];refine ⟨_,rfl,?_,rfl,by simp[J],I⟩;show i64.wrap (g.1 - (j:Int) - 1)=g.1 - ((j+1:Nat):Int);rw[bd (by omega) (by omega)];omega) (fun z u=>by
  unfold ij;rw[u.1,if_neg (by simp;omega)];obtain ⟨a,b,c⟩:=z;obtain rfl:b=_:=u.1
  rfl) (s:=(0,g.1,g.2.1,g.2.2,s.2.2.2.1,s.2.2.2.2)) ⟨by show g.1=g.1 - 0;omega,rfl,by rw[C];rfl,w⟩ (mB (by omega))
 rw[af V];refine ⟨_,rfl,⟨?_,?_⟩,T⟩
 ·show 1<=q.2.2.2.2.1.length/\q.2.2.2.2.1.length<=5;rw[K];omega
 ·show q.2.2.2.2.2.length<=11;omega
theorem acC (b:xs.length<=1048576) (C:jE xs i): ∃r:GrT×Int×Int,yJ (xs,i,h)=some r/\Data.sm r.1/\jE xs r.2.1:=by
 unfold yJ;simp only;obtain ⟨g,e,m,k⟩:=Z4 (h:=h) b C;rw[e];simp only[aa];obtain ⟨q,E,-,c⟩:=bN (h:=g.2.2) b k (n:=14) (by omega);rw[E];simp only[aa];have a:=m.sm;obtain ⟨⟨D,w⟩,B⟩:=m;by_cases o:(q.1==0)=true
 ·rw[if_pos o];obtain ⟨r,f,-,d⟩:=fc (h:=q.2.2) b c (l:=[(-1),3,2]) (by simp);rw[f];simp only[aa];rw[ai (by omega) (by omega)];simp only[aa];exact ⟨_,rfl,⟨⟨by rw[List.length_set];omega,fun _ _=>trivial⟩,a.2⟩,d⟩
 ·rw[if_neg o];by_cases p:(q.1==1)=true
  ·rw[if_pos p];obtain ⟨r,f,-,d⟩:=fc (h:=q.2.2) b c (l:=[0,1,99,100]) (by simp);rw[f];simp only[aa];obtain ⟨u,x,-,v⟩:=bN (h:=r.2.2) b d (n:=6) (by omega);rw[x];simp only[aa];obtain ⟨t,z,-,y⟩:=bN (h:=u.2.2) b v (n:=6) (by omega);rw[z];simp only[aa];obtain ⟨F,A,-,s⟩:=bN (h:=t.2.2) b y (n:=4) (by omega);rw[A];simp only[aa];rw[al (by simp only[aw,aD];omega)];simp only[aa];exact ⟨_,rfl,⟨a.1,by simp;omega,fun _ _=>⟨trivial,trivial,trivial,trivial⟩⟩,s⟩
  ·rw[if_neg p];by_cases j:(q.1==2)=true
   ·rw[if_pos j];simp only[aa];exact ⟨_,rfl,⟨⟨Nat.zero_le _,fun _ h=>by cases h⟩,a.2⟩,c⟩
   ·rw[if_neg j];simp only[aa];exact ⟨_,rfl,a,c⟩
end
end D
end Go.Proofs.YtphjdcoponilmaaGreatDoor
