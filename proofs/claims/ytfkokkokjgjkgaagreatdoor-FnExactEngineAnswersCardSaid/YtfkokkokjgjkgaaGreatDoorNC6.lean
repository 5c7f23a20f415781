/- FnExactEngineAnswers: for every input the law returns true and changes nothing that was there. Part 7 of 9. -/
import Derived.Test.YtfkokkokjgjkgaaGreatDoorNC5
set_option synthInstance.maxSize 20000
set_option synthInstance.maxHeartbeats 2000000
set_option linter.unusedVariables false
set_option linter.unusedSimpArgs false
set_option linter.unnecessarySimpa false
set_option linter.unusedSectionVars false
set_option maxRecDepth 1000000
namespace Go.Proofs.YtfkokkokjgjkgaaGreatDoor
open Go.IntKind (i64)
namespace R
open Go.RowKit
open D
theorem Jp:FOk Tryz.prog 74 Bc:=fk [(109,yR),(110,ux),(111,Hl)] ⟨Hy,CA,P0,trivial⟩ Tryz.func74 (.t (.t (.t (.t (.two (.t (.loop [.s 9,.s 10] (.t (.join [.s 9] .no .no)))) .no)))))
theorem CB:FOk Tryz.prog 40 uy:=fk [(73,Bb),(74,Bc)] ⟨Jo,Jp,trivial⟩ Tryz.func40 (.t (.t (.two (.t (.loop [.slot 5 (.own 67 y67),.s 6] (.t (.two (.t (.t (.loop [.slot 5 (.own 67 y67),.s 8] .no))) .no)))) .no)))
theorem zu:FOk Tryz.prog 17 rr:=fk [(38,o7),(39,jV),(40,uy)] ⟨wL,ng,CB,trivial⟩ Tryz.func17 .no
theorem xM:FOk Tryz.prog 5 pW:=fk [(16,pV),(17,rr)] ⟨xL,zu,trivial⟩ Tryz.func5 .no
theorem DK:FOk Tryz.prog 112 xF:=fk [] trivial Tryz.func112 (.t (.t (.two (.t (.loop [.row 3 3 y3,.s 4] .no)) .no)))
theorem MR:FOk Tryz.prog 151 Dz:=fk [] trivial Tryz.func151 .no
theorem Jq:FOk Tryz.prog 113 Bd:=fk [(151,Dz)] ⟨MR,trivial⟩ Tryz.func113 (.t (.t (.two (.t (.loop [.row 3 129 ET,.s 4] .no)) .no)))
theorem Jr:FOk Tryz.prog 75 Be:=fk [(112,xF),(113,Bd)] ⟨DK,Jq,trivial⟩ Tryz.func75 .no
theorem Hz:FOk Tryz.prog 41 yS:=fk [(75,Be)] ⟨Jr,trivial⟩ Tryz.func41 (.t (.t (.two (.t (.loop [.row 3 60 y60,.s 4] .no)) .no)))
theorem EZ:FOk Tryz.prog 18 wu:=fk [(41,yS)] ⟨Hz,trivial⟩ Tryz.func18 .no
theorem Js:FOk Tryz.prog 114 Bf:=fk [] trivial Tryz.func114 (.t (.t (.two (.t (.loop [.row 3 4 y4,.s 4] .no)) .no)))
theorem Jt:FOk Tryz.prog 115 Bg:=fk [(112,xF)] ⟨DK,trivial⟩ Tryz.func115 (.t (.t (.two (.t (.loop [.row 3 57 y57,.s 4] .no)) .no)))
theorem BC:FOk Tryz.prog 76 sF:=fk [(114,Bf),(115,Bg)] ⟨Js,Jt,trivial⟩ Tryz.func76 .no
theorem zw:FOk Tryz.prog 42 ru:=fk [(76,sF)] ⟨BC,trivial⟩ Tryz.func42 (.t (.t (.two (.t (.loop [.row 3 82 y82,.s 4] .no)) .no)))
theorem Ju:FOk Tryz.prog 192 Bh:=fk [] trivial Tryz.func192 .no
theorem HA:FOk Tryz.prog 152 yT:=fk [(192,Bh)] ⟨Ju,trivial⟩ Tryz.func152 (.t (.t (.two (.t (.loop [.row 3 183 yI,.s 4] .no)) .no)))
theorem MS:FOk Tryz.prog 116 DA:=fk [(152,yT)] ⟨HA,trivial⟩ Tryz.func116 .no
end R
namespace R
open Go.RowKit
open D
theorem zx:FOk Tryz.prog 77 rv:=fk [(116,DA)] ⟨MS,trivial⟩ Tryz.func77 .no
theorem xN:FOk Tryz.prog 43 pX:=fk [(77,rv)] ⟨zx,trivial⟩ Tryz.func43 (.t (.t (.two (.t (.loop [.row 3 126 Hi,.s 4] .no)) .no)))
theorem CC:FOk Tryz.prog 19 uz:=fk [(42,ru),(43,pX)] ⟨zw,xN,trivial⟩ Tryz.func19 .no
theorem zy:FOk Tryz.prog 44 ry:=fk [] trivial Tryz.func44 .no
theorem xO:FOk Tryz.prog 20 pY:=fk [(44,ry)] ⟨zy,trivial⟩ Tryz.func20 (.t (.t (.two (.t (.loop [.row 3 91 y91,.s 4] .no)) .no)))
theorem HB:FOk Tryz.prog 6 yU:=fk [(18,wu),(19,uz),(20,pY)] ⟨EZ,CC,xO,trivial⟩ Tryz.func6 .no
theorem gJ:FOk Tryz.prog 48 fN:=fk [] trivial Tryz.func48 .no
theorem DL:FOk Tryz.prog 86 xG:=fk [(48,fN)] ⟨gJ,trivial⟩ Tryz.func86 .no
theorem nh:FOk Tryz.prog 52 jW:=fk [(48,fN),(86,xG)] ⟨gJ,DL,trivial⟩ Tryz.func52 (.t (.t (.two (.t (.loop [.s 14] .no)) (.two (.t (.loop [.s 25] .no)) .no))))
theorem eE:FOk Tryz.prog 78 cY:=fk [] trivial Tryz.func78 (.t (.t (.two (.t (.loop [.s 13] .no)) .no)))
theorem pe:FOk Tryz.prog 45 k9:=fk [(48,fN),(52,jW),(78,cY)] ⟨gJ,nh,eE,trivial⟩ Tryz.func45 (.t (.t (.t (.two (.t (.loop [.s 24] .no)) .no))))
theorem ze:FOk Tryz.prog 256 sG:=fk [(48,fN)] ⟨gJ,trivial⟩ Tryz.func256 .no
theorem Jv:FOk Tryz.prog 232 Bi:=fk [(48,fN),(256,sG)] ⟨gJ,ze,trivial⟩ Tryz.func232 (.t (.two (.t (.t (.t (.t (.t (.join [.slot 37 .boo] .no .no)))))) .no))
theorem ni:FOk Tryz.prog 233 bt:=Hf (f:=bt) (kE (f:=⟨bt.ps,bt.rs,bt.m,none⟩) (enters_of Tryz.func233 (by kernel_rfl) rfl) rfl (fun d=>rfl)) (Lb (V:=⟨tt,[],[(5,.raw)],8,[]⟩) PY trivial mixed Tryz.func233 rfl rfl (enters_of Tryz.func233 (by kernel_rfl) rfl) (a8 rfl) .no (fun E bn xs=>by cases bn <;> kernel_rfl))
theorem xP:FOk Tryz.prog 195 tU:=fk [(232,Bi),(233,bt)] ⟨Jv,ni,trivial⟩ Tryz.func195 (.t (.t (.two (.t (.loop [.slot 3 (.own 240 abL),.s 13] (.t (.t (.two (.t (.t (.two (.t (.at [.s 6] (.two (.t (.at [.slot 19 .boo] .no)) (.t (.two (.t (.at [.slot 22 .boo] .no)) .no))))) .no))) .no))))) .no))) (tr:=[(275,240,yI)])
theorem MT:FOk Tryz.prog 273 DB:=fk [(195,tU)] ⟨xP,trivial⟩ Tryz.func273 .no (tr:=[(275,240,yI)])
theorem BD:FOk Tryz.prog 227 sH:=fk [(273,DB)] ⟨MT,trivial⟩ Tryz.func227 .no
end R
namespace R
open Go.RowKit
open D
theorem uK: ∀n,FOk Tryz.prog 228 (mx n)
 | 0=>kE (f:=mx 0) (enters_of Tryz.func228 (by kernel_rfl) rfl) rfl (fun d=>rfl)
 | n+1=>by
  have ih:=uK n
  exact fk [(228,(mx n))] ⟨ih,trivial⟩ Tryz.func228 (.t (.t (.two (.t (.loop [.s 3,.s 11] (.t (.t (.two (.at [.s 3] .no) .no))))) .no))) (tr:=[(275,240,yI)])
theorem TJ:FOk Tryz.prog 301 Lk:=fk [] trivial Tryz.func301 .no (tr:=[(275,240,yI)])
theorem zf: ∀n,FOk Tryz.prog 274 (o8 n)
 | 0=>kE (f:=o8 0) (enters_of Tryz.func274 (by kernel_rfl) rfl) rfl (fun d=>rfl)
 | n+1=>by
  have ih:=zf n
  exact fk [(274,(o8 n)),(301,Lk)] ⟨ih,TJ,trivial⟩ Tryz.func274 .no (tr:=[(275,240,yI)])
theorem sU: ∀n,FOk Tryz.prog 229 (ld n)
 | 0=>kE (f:=ld 0) (enters_of Tryz.func229 (by kernel_rfl) rfl) rfl (fun d=>rfl)
 | n+1=>by
  have ih:=sU n
  exact fk [(229,(ld n)),(274,(o8 gx))] ⟨ih,(zf gx),trivial⟩ Tryz.func229 (.t (.t (.t (.two (.t (.loop [.s 41,.box 3 [(.num .i64),(.num .i64),(.num .i64),(.num .i64),(.own 240 (.tree 275 240 yI))]] .no)) .no)))) (an:=[(52,t240)]) (tr:=[(275,240,yI)])
theorem rL: ∀n,FOk Tryz.prog 275 (jX n)
 | 0=>kE (f:=jX 0) (enters_of Tryz.func275 (by kernel_rfl) rfl) rfl (fun d=>rfl)
 | n+1=>by
  have ih:=rL n
  exact fk [(275,(jX n))] ⟨ih,trivial⟩ Tryz.func275 (.two (.t (.loop [.s 11,.box 1 [(.own 183 yI)]] .no)) .no) (tr:=[(275,240,yI)])
theorem E3:FOk Tryz.prog 230 wv:=fk [(275,(jX gx))] ⟨(rL gx),trivial⟩ Tryz.func230 .no (tr:=[(275,240,yI)])
theorem CD:FOk Tryz.prog 193 uA:=fk [(195,tU),(227,sH),(228,(mx gx)),(229,(ld gx)),(230,wv)] ⟨xP,BD,(uK gx),(sU gx),E3,trivial⟩ Tryz.func193 .no (tr:=[(275,240,yI)])
theorem ue:FOk Tryz.prog 231 nn:=fk [] trivial Tryz.func231 (.t (.loop [.s 12,.par 4 [3] 3 y3] (.t (.t (.two (.at [.par 4 [3] 3 y3] .no) .no)))))
theorem oC: ∀n,FOk Tryz.prog 194 (gq n)
 | 0=>kE (f:=gq 0) (enters_of Tryz.func194 (by kernel_rfl) rfl) rfl (fun d=>rfl)
 | n+1=>by
  have ih:=oC n
  exact fk [(194,(gq n)),(231,nn)] ⟨ih,ue,trivial⟩ Tryz.func194 (.t (.two (.t (.t (.t (.t (.t (.t (.t (.t (.two (.t (.t (.t (.two (.t (.at [.box 10 [(.num .i64),(.num .i64),.boo]] .no)) (.two (.t (.at [.box 10 [(.num .i64),(.num .i64),.boo]] .no)) .no))))) .no))))))))) .no)) (tr:=[(275,240,yI)])
theorem wM:FOk Tryz.prog 153 o9:=fk [(193,uA),(194,(gq gx)),(195,tU)] ⟨CD,(oC gx),xP,trivial⟩ Tryz.func153 (.t (.t (.t (.t (.two (.t (.loop [.s 6,.s 22] (.t (.t (.two (.at [.s 6] .no) .no))))) .no))))) (tr:=[(275,240,yI)])
theorem rM:FOk Tryz.prog 196 nf:=fk [] trivial Tryz.func196 (.t (.t (.t (.t (.two (.t (.loop [.slot 10 (.own 3 y3),.slot 11 (.map ⟨3,3,.int,.int⟩),.s 13,.box 12 [(.num .i64),(.own 4 y4),(.own 57 y57)]] (.t (.two (.t (.two (.t (.loop [.slot 10 (.own 3 y3),.slot 11 (.map ⟨3,3,.int,.int⟩),.slot 14 (.own 3 y3),.s 15] (.t (.join [.slot 10 (.own 3 y3),.slot 11 (.map ⟨3,3,.int,.int⟩),.slot 14 (.own 3 y3)] (.t (.t (.t (.join [.slot 10 (.own 3 y3),.slot 11 (.map ⟨3,3,.int,.int⟩),.s 18] .no .no)))) .no)))) .no)) .no)))) .no)))))
theorem sV:FOk Tryz.prog 197 mM:=fk [] trivial Tryz.func197 .no
theorem vr:FOk Tryz.prog 199 oo:=fk [] trivial Tryz.func199 (.t (.t (.join [.s 7] .no (.two (.t (.loop [.s 7,.s 21] (.t (.t (.join [.s 7] .no .no))))) (.t (.two (.t (.loop [.s 10,.s 39] (.t (.t (.join [.s 10] .no .no))))) .no))))))
theorem xQ:FOk Tryz.prog 198 pZ:=fk [(199,oo)] ⟨vr,trivial⟩ Tryz.func198 .no
theorem BE:FOk Tryz.prog 154 sI:=fk [(196,nf),(197,mM),(198,pZ)] ⟨rM,sV,xQ,trivial⟩ Tryz.func154 .no
theorem nL:FOk Tryz.prog 302 bz:=Hf (f:=bz) (kE (f:=⟨bz.ps,bz.rs,bz.m,none⟩) (enters_of Tryz.func302 (by kernel_rfl) rfl) rfl (fun d=>rfl)) (Lb (V:=⟨tt,[],[(5,.raw)],8,[]⟩) PY trivial mixed Tryz.func302 rfl rfl (enters_of Tryz.func302 (by kernel_rfl) rfl) (a8 rfl) .no (fun E bn xs=>by cases bn <;> kernel_rfl))
theorem wN:FOk Tryz.prog 276 pa:=fk [(302,bz)] ⟨nL,trivial⟩ Tryz.func276 (.t (.t (.two (.t (.loop [.slot 4 .boo,.row 3 4 y4] (.t (.t (.t (.loop [.slot 4 .boo,.s 16,.row 3 4 y4] (.t (.t (.two (.t (.t (.loop [.slot 4 .boo,.s 23,.row 3 4 y4] (.t (.t (.two (.at [.slot 4 .boo,.row 3 4 y4] .no) .no)))))) .no))))))))) .no)))
end R
namespace R
open Go.RowKit
open D
theorem ky:FOk Tryz.prog 303 eC:=fk [] trivial Tryz.func303 (.t (.two (.t (.loop [.s 8] .no)) .no))
theorem rR:FOk Tryz.prog 304 lA:=fk [(78,cY)] ⟨eE,trivial⟩ Tryz.func304 .no
theorem uf:FOk Tryz.prog 277 np:=fk [(303,eC),(304,lA)] ⟨ky,rR,trivial⟩ Tryz.func277 (.t (.t (.t (.two (.t (.loop [.slot 6 (.own 57 y57),.slot 7 (.own 3 y3),.s 18] (.t (.t (.join [.slot 6 (.own 57 y57),.slot 7 (.own 3 y3)] (.t (.t (.t (.two (.t (.loop [.s 36,.box 10 [(.own 3 y3)]] (.t (.t (.two (.t (.join [.s 12] .no .no)) .no))))) (.t (.join [.slot 6 (.own 57 y57),.s 13,.gone 10] .no .no)))))) .no))))) .no))))
theorem sW:FOk Tryz.prog 234 mN:=fk [(276,pa),(277,np)] ⟨wN,uf,trivial⟩ Tryz.func234 (.t (.t (.two (.t (.loop [.slot 3 (.own 3 y3),.s 13] (.t (.t (.join [.slot 3 (.own 3 y3)] .no .no))))) (.t (.loop [.slot 3 (.own 3 y3),.s 6] .no)))))
theorem vt:FOk Tryz.prog 291 oq:=fk [] trivial Tryz.func291 .no
theorem vu:FOk Tryz.prog 292 ot:=fk [] trivial Tryz.func292 .no
theorem xR:FOk Tryz.prog 254 p7:=fk [(291,oq),(292,ot)] ⟨vt,vu,trivial⟩ Tryz.func254 .no
theorem iK:FOk Tryz.prog 211 dZ:=fk [(254,p7)] ⟨xR,trivial⟩ Tryz.func211 (.t (.t (.t (.t (.t (.t (.two (.loop [.s 8,.row 7 3 (.int .i64)] .no) .no))))))) (an:=[(44,.bool)])
theorem Jw:FOk Tryz.prog 235 Bj:=fk [(211,dZ)] ⟨iK,trivial⟩ Tryz.func235 .no
theorem oL:FOk Tryz.prog 237 jh:=fk [] trivial Tryz.func237 (.t (.two (.t (.loop [.s 8] .no)) .no))
theorem qj:FOk Tryz.prog 236 kh:=fk [(237,jh)] ⟨oL,trivial⟩ Tryz.func236 .no
theorem qk:FOk Tryz.prog 238 kj:=fk [] trivial Tryz.func238 .no
theorem lh:FOk Tryz.prog 214 gR:=fk [(256,sG)] ⟨ze,trivial⟩ Tryz.func214 .no
theorem ql:FOk Tryz.prog 239 kl:=fk [(214,gR)] ⟨lh,trivial⟩ Tryz.func239 .no
theorem rS:FOk Tryz.prog 200 lB:=fk [(196,nf),(234,mN),(235,Bj),(236,kh),(238,kj),(239,kl)] ⟨rM,sW,Jw,qj,qk,ql,trivial⟩ Tryz.func200 .no
theorem P1:FOk Tryz.prog 155 Hm:=fk [(200,lB)] ⟨rS,trivial⟩ Tryz.func155 .no
theorem BF:FOk Tryz.prog 117 sJ:=fk [(153,o9),(154,sI),(155,Hm)] ⟨wM,BE,P1,trivial⟩ Tryz.func117 .no
end R
namespace R
open Go.RowKit
open D
theorem gG:FOk Tryz.prog 118 cX:=fk [] trivial Tryz.func118 (.t (.two (.t (.loop [.s 8] .no)) .no))
theorem nM:FOk Tryz.prog 156 gS:=fk [] trivial Tryz.func156 (.t (.t (.two (.t (.loop [.s 13] .no)) .no)))
theorem eX:FOk Tryz.prog 157 cg:=fk [] trivial Tryz.func157 (.t (.t (.two (.t (.loop [.s 17] .no)) .no)))
theorem vv:FOk Tryz.prog 158 ou:=fk [(78,cY)] ⟨eE,trivial⟩ Tryz.func158 .no
theorem qm:FOk Tryz.prog 120 lR:=fk [(156,gS),(157,cg),(158,ou)] ⟨nM,eX,vv,trivial⟩ Tryz.func120 .no
theorem HC:FOk Tryz.prog 119 yV:=fk [(120,lR)] ⟨qm,trivial⟩ Tryz.func119 .no
theorem HD:FOk Tryz.prog 121 yW:=fk [] trivial Tryz.func121 .no
theorem MU:FOk Tryz.prog 79 DC:=fk [(48,fN),(117,sJ),(118,cX),(119,yV),(121,yW)] ⟨gJ,BF,gG,HC,HD,trivial⟩ Tryz.func79 (.t (.t (.two (.t (.loop [.s 13,.box 4 [(.own 82 y82),(.own 126 Hi)]] (.t (.t (.two (.t (.t (.t (.t (.join [.s 9,.box 4 [(.own 82 y82),(.own 126 Hi)],.gone 7] .no .no))))) .no))))) .no)))
theorem cL:FOk Tryz.prog 122 br:=fk [] trivial Tryz.func122 (.t (.t (.two (.t (.loop [.s 17] .no)) .no)))
theorem cy:FOk Tryz.prog 123 bj:=fk [] trivial Tryz.func123 (.t (.t (.two (.t (.loop [.s 17] .no)) .no)))
theorem mP:FOk Tryz.prog 201 fU:=fk [] trivial Tryz.func201 (.t (.t (.two (.t (.loop [.s 13] .no)) .no)))
theorem CE:FOk Tryz.prog 159 uB:=fk [(201,fU)] ⟨mP,trivial⟩ Tryz.func159 .no
theorem zz:FOk Tryz.prog 124 rz:=fk [(159,uB)] ⟨CE,trivial⟩ Tryz.func124 .no
theorem vx:FOk Tryz.prog 80 ox:=fk [(120,lR),(122,br),(123,bj),(124,rz)] ⟨qm,cL,cy,zz,trivial⟩ Tryz.func80 .no
theorem oD:FOk Tryz.prog 46 j7:=fk [(79,DC),(80,ox)] ⟨MU,vx,trivial⟩ Tryz.func46 .no
theorem xS:FOk Tryz.prog 47 p8:=fk [(45,k9)] ⟨pe,trivial⟩ Tryz.func47 .no
theorem fQ:FOk Tryz.prog 81 cK:=fk [] trivial Tryz.func81 (.t (.two (.t (.loop [.s 8] .no)) .no))
end R
namespace R
open Go.RowKit
open D
theorem BG:FOk Tryz.prog 82 sK:=fk [] trivial Tryz.func82 .no
theorem wO:FOk Tryz.prog 49 qW:=fk [(81,cK),(82,sK)] ⟨fQ,BG,trivial⟩ Tryz.func49 .no
theorem sX:FOk Tryz.prog 83 mO:=EN EP (enters_of Tryz.func83 (by kernel_rfl) rfl)
theorem qn:FOk Tryz.prog 126 lS:=PT PV (by kernel_rfl) (by kernel_rfl) (enters_of Tryz.func126 (by kernel_rfl) rfl)
theorem BH (n a b:Int) (w:World):Calls Tryz.prog 48 #[.int .i64 n,.int .i64 a,.int .i64 b] w fun e w'=>e= .returned (.bool (decide (a<=n/\n<=b)))/\w'=w:=by
 by_cases h:a<=n
 ·go_enter Tryz.func48,Tryz.ntmps48
  go_wp2
  go_ret
  simp[h]
 ·go_enter Tryz.func48,Tryz.ntmps48
  go_wp2
  go_ret
  simp
  try (intro k;omega)
theorem Jx (s:ByteArray) (r:Int×Bool) (w:World) (hr:sn s=some r) (hL:LayW Tryz.prog w):Calls Tryz.prog 127 #[.string s] w fun e w'=>e= .returned (.tuple #[.int .i64 r.1,.bool r.2])/\Below w.heap.size w w':=by
 unfold sn at hr
 by_cases h10:10<s.size
 ·rw[if_pos h10] at hr
  obtain rfl:=ad hr
  go_enter Tryz.func127,Tryz.ntmps127
  go_wp2
  go_ret2
  exact ⟨rfl,Below.refl _ _⟩
 ·rw[if_neg h10] at hr
  have h18:s.size<=18:=by omega
  cases ha:Lib.atoi s.data.toList with
  | none =>
   rw[ha] at hr
   obtain rfl:=ad hr
   obtain ⟨tp,p,hv⟩:=hL.syn
   have hcon:=Any.strconv_Atoi_err_var Lh s h18 ha tp p w hv
   go_enter Tryz.func127,Tryz.ntmps127
   go_wp2_with (go_at_call 162;refine hcon.mono ?_;rintro e w' ⟨N,rfl,hN,hh,hb⟩)
   go_ret2
   exact ⟨rfl,hb⟩
  | some n =>
   rw[ha] at hr
   have hB:=Lib.atoi_bound ha (by simpa using h18)
   have hA:=Any.strconv_Atoi { Lh with } s n h18 ha w
   have hI:=fun t=>Any.strconv_Itoa Lg n (by omega) (by omega) (Lib.bytesWorld w 5 t) (Lib.bytesWorld_var w 5 t hL.tab)
   have hz: ∀t k os,Below w.heap.size w (Go.Sort.grow ((Lib.bytesWorld w 5 t).drewN k) os):=fun t k os=>by
    have h1:=Lib.bytesWorld_below w 5 t
    exact ⟨h1.os,h1.tape,h1.output,by have:=h1.size;simp only[Go.Sort.grow,Array.size_append];exact Nat.le_trans this (Nat.le_add_right _ _),fun b hb=>(Go.Sort.heap_grow_old ((Lib.bytesWorld w 5 t).drewN k) os (ay hb h1.size:b<((Lib.bytesWorld w 5 t).drewN k).heap.size)).trans (h1.block b hb)⟩
   replace hr:(if (⟨(Lib.itoa n).toArray⟩:ByteArray)=s/\ -999999999<=n/\n<=999999999 then some (n,true) else some (0,false))=some r:=hr
   generalize (⟨(Lib.itoa n).toArray⟩:ByteArray)=q at hr hI
   by_cases e1:q=s
   ·subst e1
    by_cases e2: -999999999<=n/\n<=999999999
    ·rw[if_pos ⟨rfl,e2.1,e2.2⟩] at hr
     obtain rfl:=ad hr
     go_enter Tryz.func127,Tryz.ntmps127
     go_wp2_with (first | (go_at_call 162;refine hA.mono ?_;rintro e w' ⟨rfl,t,rfl⟩) | (go_at_call 163;refine (hI _).mono ?_;rintro e w' ⟨rfl,k,os,rfl⟩) | (go_at_call 48;refine (BH _ _ _ _).mono ?_;rintro e w' ⟨rfl,rfl⟩))
     go_ret2
     exact ⟨rfl,hz _ _ _⟩
    ·rw[if_neg fun k=>e2 k.2] at hr
     obtain rfl:=ad hr
     go_enter Tryz.func127,Tryz.ntmps127
     go_wp2_with (first | (go_at_call 162;refine hA.mono ?_;rintro e w' ⟨rfl,t,rfl⟩) | (go_at_call 163;refine (hI _).mono ?_;rintro e w' ⟨rfl,k,os,rfl⟩) | (go_at_call 48;refine (BH _ _ _ _).mono ?_;rintro e w' ⟨rfl,rfl⟩))
     go_ret2
     exact ⟨rfl,hz _ _ _⟩
   ·rw[if_neg fun k=>e1 k.1] at hr
    obtain rfl:=ad hr
    have e2: ¬q.toList=s.toList:=fun k=>e1 (Go.WideShapes.bytes_inj (by rw[<-ByteArray.toList_eq,<-ByteArray.toList_eq];exact k))
    go_enter Tryz.func127,Tryz.ntmps127
    go_wp2_with (first | (go_at_call 162;refine hA.mono ?_;rintro e w' ⟨rfl,t,rfl⟩) | (go_at_call 163;refine (hI _).mono ?_;rintro e w' ⟨rfl,k,os,rfl⟩) | (go_at_call 48;refine (BH _ _ _ _).mono ?_;rintro e w' ⟨rfl,rfl⟩))
    go_ret2
    exact ⟨rfl,hz _ _ _⟩
theorem zg:FOk Tryz.prog 127 sL:=PU (enters_of Tryz.func127 (by kernel_rfl) rfl) Jx
theorem BJ:FOk Tryz.prog 208 sM:=XV XX (by kernel_rfl) (enters_of Tryz.func208 (by kernel_rfl) rfl)
theorem zA:FOk Tryz.prog 163 rA:=TE Lg (enters_of Tryz.func163 (by kernel_rfl) rfl)
theorem wP:FOk Tryz.prog 166 qX:=fk [(163,rA)] ⟨zA,trivial⟩ Tryz.func166 .no
theorem uL:FOk Tryz.prog 209 pF:=fk [(86,xG),(166,qX)] ⟨DL,wP,trivial⟩ Tryz.func209 .no
theorem E4:FOk Tryz.prog 164 wx:=fk [(127,sL),(208,sM),(209,pF)] ⟨zg,BJ,uL,trivial⟩ Tryz.func164 .no
theorem zB:FOk Tryz.prog 210 rB:=TG TH PW 9 (enters_of Tryz.func210 (by kernel_rfl) rfl)
theorem sY:FOk Tryz.prog 165 oy:=fk [(209,pF),(210,rB)] ⟨uL,zB,trivial⟩ Tryz.func165 (.t (.t (.t (.two (.t (.loop [.slot 3 (.own 9 y9),.s 15] (.t (.t (.two (.atX [.slot 3 (.own 9 y9)] .no) .no))))) .no))))
theorem CF:FOk Tryz.prog 128 uC:=fk [(126,lS),(164,wx),(165,oy)] ⟨qn,E4,sY,trivial⟩ Tryz.func128 (.t (.t (.t (.two (.t (.loop [.s 16,.box 4 [(.own 212 (.prod y4 ET))]] .no)) .no))))
theorem HE:FOk Tryz.prog 167 yX:=fk [] trivial Tryz.func167 (.t (.t (.two (.t (.loop [.s 3,.s 4] .no)) .no)))
theorem zC:FOk Tryz.prog 129 rC:=fk [(48,fN),(165,oy),(166,qX),(167,yX)] ⟨gJ,sY,wP,HE,trivial⟩ Tryz.func129 .no
theorem zD:FOk Tryz.prog 84 rD:=fk [(126,lS),(127,sL),(128,uC),(129,rC)] ⟨qn,zg,CF,zC,trivial⟩ Tryz.func84 .no
theorem Jy:FOk Tryz.prog 50 Bk:=Lf (ps:=[.rd y9]) (A:=y57) (E:=141) (t:=Hj) (B:=y3) (m:=m_i_ScanLog) (fk [(83,mO),(84,rD)] ⟨sX,zD,trivial⟩ Tryz.func50 (.t (.t (.t (.t (.two (.loop [.slot 5 (.own 3 y3),.slot 6 (.own 141 Hj),.s 7] .no) .no))))))
end R
namespace R
open Go.RowKit
open D
theorem xT:FOk Tryz.prog 21 p9:=fk [(45,k9),(46,j7),(47,p8),(48,fN),(49,qW),(50,Bk)] ⟨pe,oD,xS,gJ,wO,Jy,trivial⟩ Tryz.func21 (.t (.t (.t (.two (.t (.loop [.s 37] .no)) .no))))
theorem zh:FOk Tryz.prog 130 sN:=fk [] trivial Tryz.func130 .no
theorem xU:FOk Tryz.prog 85 qa:=fk [(130,sN)] ⟨zh,trivial⟩ Tryz.func85 (.t (.t (.two (.t (.loop [.s 16,.box 3 [(.num .i64),(.own 4 y4),(.own 57 y57)]] .no)) .no)))
theorem wQ:FOk Tryz.prog 51 pb:=fk [(46,j7),(49,qW),(85,qa)] ⟨oD,wO,xU,trivial⟩ Tryz.func51 .no
theorem ug:FOk Tryz.prog 131 nr:=fk [(48,fN)] ⟨gJ,trivial⟩ Tryz.func131 (.t (.t (.t (.two (.t (.loop [.s 32] (.t (.t (.two (.t (.two (.t (.loop [.s 38] .no)) .no)) .no))))) .no))))
theorem DM:FOk Tryz.prog 87 xH:=fk [(48,fN),(52,jW),(131,nr)] ⟨gJ,nh,ug,trivial⟩ Tryz.func87 (.t (.two (.t (.loop [.s 11] .no)) .no))
theorem MV:FOk Tryz.prog 168 DD:=fk [(211,dZ)] ⟨iK,trivial⟩ Tryz.func168 (.t (.t (.t (.two (.t (.loop [.slot 6 (.own 3 (.int .i64)),.s 18,.row 5 3 y3] .no)) (.two (.loop [.slot 6 (.own 3 (.int .i64)),.row 5 3 y3] (.t (.two (.t (.loop [.slot 6 (.own 3 y3),.s 42,.row 5 3 y3] (.t (.t (.two (.at [.slot 6 (.own 3 y3),.row 5 3 y3] .no) .no))))) .no))) .no))))) (an:=[(34,.bool)])
theorem vy:FOk Tryz.prog 170 qY:=fk [] trivial Tryz.func170 (.t (.t (.two (.t (.loop [.slot 3 (.own 3 y3),.s 4] (.t (.join [.slot 3 (.own 3 y3)] .no .no)))) .no)))
theorem P2:FOk Tryz.prog 255 Hn:=fk [] trivial Tryz.func255 .no
theorem TK:FOk Tryz.prog 212 Ll:=fk [(255,Hn)] ⟨P2,trivial⟩ Tryz.func212 (.t (.t (.two (.t (.loop [.s 13,.row 3 257 abM] .no)) .no)))
theorem BK:FOk Tryz.prog 171 vo:=fk [(214,gR)] ⟨lh,trivial⟩ Tryz.func171 (.t (.t (.two (.t (.loop [.s 7,.s 8] .no)) .no)))
theorem P3:FOk Tryz.prog 213 Ho:=fk [(170,qY),(171,vo),(214,gR)] ⟨vy,BK,lh,trivial⟩ Tryz.func213 (.t (.t (.two (.t (.loop [.s 9,.s 18] (.t (.t (.two (.t (.t (.loop [.s 9,.s 28] (.t (.t (.join [.s 9] .no .no)))))) .no))))) .no)))
theorem zE:FOk Tryz.prog 169 rE:=fk [(170,qY),(212,Ll),(213,Ho)] ⟨vy,TK,P3,trivial⟩ Tryz.func169 (.t (.t (.t (.two (.t (.loop [.s 26,.row 6 57 y57] (.t (.t (.two (.t (.t (.loop [.s 9,.row 6 57 y57] (.t (.two (.t (.loop [.s 38,.row 6 57 y57] (.t (.t (.two (.t (.t (.loop [.s 55,.row 6 57 y57] .no))) .no))))) .no))))) .no))))) .no))))
theorem xV:FOk Tryz.prog 132 qb:=ac9 (V:=⟨tt,[(87,xH),(168,DD),(169,rE)],[(1000000,.raw)],26,[]⟩) PY ⟨DM,MV,zE,trivial⟩ mixed Tryz.func132 rfl rfl (enters_of Tryz.func132 (by kernel_rfl) rfl) ⟨rfl,rfl⟩ (a8 rfl) rfl .no (fun d=>by kernel_rfl)
theorem E5:FOk Tryz.prog 133 wz:=fk [(170,qY),(171,vo)] ⟨vy,BK,trivial⟩ Tryz.func133 (.t (.two (.t (.loop [.s 14] (.t (.t (.two (.t (.t (.loop [.s 24] .no))) .no))))) .no))
theorem pG:FOk Tryz.prog 172 jA:=PS Jd (enters_of Tryz.func172 (by kernel_rfl) rfl) 3
theorem nO:FOk Tryz.prog 173 gT:=fk [] trivial Tryz.func173 (.t (.t (.two (.t (.loop [.s 3] (.t (.two (.t (.two (.t (.two (.t (.loop [.s 3,.s 5,.row 0 3 y3] (.t (.two (.at [.s 3,.row 0 3 y3] .no) .no)))) .no)) .no)) .no)))) .no))) (an:=[(28,.raw),(56,.raw),(59,.raw)])
end R
namespace R
open Go.RowKit
open D
theorem E6:FOk Tryz.prog 134 wA:=fk [(130,sN),(172,jA),(173,gT)] ⟨zh,pG,nO,trivial⟩ Tryz.func134 .no
theorem BL:FOk Tryz.prog 88 sO:=fk [(132,qb),(133,wz),(134,wA)] ⟨xV,E5,E6,trivial⟩ Tryz.func88 (.t (.t (.t (.two (.t (.loop [.slot 7 (.own 3 y3),.s 20] (.t (.t (.two (.at [.slot 7 (.own 3 y3)] .no) .no))))) .no))))
theorem CG:FOk Tryz.prog 53 uD:=fk [(87,xH),(88,sO)] ⟨DM,BL,trivial⟩ Tryz.func53 (.t (.t (.t (.two (.t (.loop [.slot 5 (.own 67 y67),.s 17] (.t (.t (.two (.t (.t (.loop [.slot 5 (.own 67 y67),.s 25] .no))) .no))))) .no))))
theorem zF:FOk Tryz.prog 22 rF:=fk [(51,pb),(52,jW),(53,uD)] ⟨wQ,nh,CG,trivial⟩ Tryz.func22 .no
theorem E7:FOk Tryz.prog 23 wB:=Tx rfl rfl (fok (f:=⟨[.rd (.prod (.prod (.int .i64) (.sl 60 (.prod .raw .raw))) (.prod y42 (.prod y43 y9)))],[.prod .raw .raw],fun e=>(aG e.1.2 (i64.wrap ((e.1.2.length:Int) - 1))).bind fun x0=>some (x0.1,x0.2),none⟩) (V:=⟨tt,[],[],13,[]⟩) PY trivial mixed Tryz.func23 rfl rfl (enters_of Tryz.func23 (by kernel_rfl) rfl) rfl (a8 rfl) rfl .no (fun d=>by kernel_rfl))
theorem xW:FOk Tryz.prog 7 qc:=fk [(21,p9),(22,rF),(23,wB)] ⟨xT,zF,E7,trivial⟩ Tryz.func7 .no
theorem MW:FOk Tryz.prog 24 DE:=fk [] trivial Tryz.func24 .no
theorem Jz:FOk Tryz.prog 8 Bl:=fk [(24,DE)] ⟨MW,trivial⟩ Tryz.func8 (.t (.t (.two (.t (.loop [.s 5] .no)) .no)))
theorem DN:FOk Tryz.prog 135 xI:=fk [] trivial Tryz.func135 (.t (.t (.two (.t (.loop [.s 5] .no)) .no)))
theorem MX:FOk Tryz.prog 174 DF:=fk [] trivial Tryz.func174 .no
theorem JA:FOk Tryz.prog 136 Bm:=fk [(174,DF)] ⟨MX,trivial⟩ Tryz.func136 (.t (.t (.two (.t (.loop [.s 5] .no)) .no)))
theorem JB:FOk Tryz.prog 89 Bn:=fk [(135,xI),(136,Bm)] ⟨DN,JA,trivial⟩ Tryz.func89 .no
theorem HF:FOk Tryz.prog 54 yY:=fk [(89,Bn)] ⟨JB,trivial⟩ Tryz.func54 (.t (.t (.two (.t (.loop [.s 5] .no)) .no)))
theorem E8:FOk Tryz.prog 25 wC:=fk [(54,yY)] ⟨HF,trivial⟩ Tryz.func25 .no
theorem JC:FOk Tryz.prog 137 Bo:=fk [] trivial Tryz.func137 (.t (.t (.two (.t (.loop [.s 5] .no)) .no)))
theorem JD:FOk Tryz.prog 138 Bp:=fk [(135,xI)] ⟨DN,trivial⟩ Tryz.func138 (.t (.t (.two (.t (.loop [.s 5] .no)) .no)))
theorem BM:FOk Tryz.prog 90 sP:=fk [(137,Bo),(138,Bp)] ⟨JC,JD,trivial⟩ Tryz.func90 .no
end R
namespace R
open Go.RowKit
open D
theorem zG:FOk Tryz.prog 55 rG:=fk [(90,sP)] ⟨BM,trivial⟩ Tryz.func55 (.t (.t (.two (.t (.loop [.s 5] .no)) .no)))
theorem JE:FOk Tryz.prog 217 Bq:=fk [] trivial Tryz.func217 .no
theorem HG:FOk Tryz.prog 175 yZ:=fk [(217,Bq)] ⟨JE,trivial⟩ Tryz.func175 (.t (.t (.two (.t (.loop [.s 5] .no)) .no)))
theorem MY:FOk Tryz.prog 139 DG:=fk [(175,yZ)] ⟨HG,trivial⟩ Tryz.func139 .no
theorem zH:FOk Tryz.prog 91 rH:=fk [(139,DG)] ⟨MY,trivial⟩ Tryz.func91 .no
theorem xX:FOk Tryz.prog 56 qd:=fk [(91,rH)] ⟨zH,trivial⟩ Tryz.func56 (.t (.t (.two (.t (.loop [.s 5] .no)) .no)))
theorem CH:FOk Tryz.prog 26 uE:=fk [(55,rG),(56,qd)] ⟨zG,xX,trivial⟩ Tryz.func26 .no
theorem zI:FOk Tryz.prog 57 rI:=fk [] trivial Tryz.func57 .no
theorem xY:FOk Tryz.prog 27 qe:=fk [(57,rI)] ⟨zI,trivial⟩ Tryz.func27 (.t (.t (.two (.t (.loop [.s 5] .no)) .no)))
theorem HH:FOk Tryz.prog 9 y6:=fk [(25,wC),(26,uE),(27,qe)] ⟨E8,CH,xY,trivial⟩ Tryz.func9 .no
theorem zi:FOk Tryz.prog 92 sQ:=fk [] trivial Tryz.func92 (.t (.two (.t (.loop [.par 0 [] 3 y3,.s 1,.s 5] .no)) .no))
theorem E9:FOk Tryz.prog 93 wD:=fk [] trivial Tryz.func93 (.t (.two (.t (.loop [.par 0 [] 129 ET,.s 1,.s 5] .no)) .no))
theorem CI:FOk Tryz.prog 58 uF:=fk [(92,sQ),(93,wD)] ⟨zi,E9,trivial⟩ Tryz.func58 (.t (.two (.t (.loop [.par 0 [] 60 y60,.s 1,.s 5] .no)) .no))
theorem BN:FOk Tryz.prog 28 sR:=fk [(58,uF)] ⟨CI,trivial⟩ Tryz.func28 .no
theorem Fa:FOk Tryz.prog 94 wE:=fk [] trivial Tryz.func94 (.t (.two (.t (.loop [.par 0 [] 4 y4,.s 1,.s 5] .no)) .no))
theorem Fb:FOk Tryz.prog 95 wF:=fk [(92,sQ)] ⟨zi,trivial⟩ Tryz.func95 (.t (.two (.t (.loop [.par 0 [] 57 y57,.s 1,.s 5] .no)) .no))
theorem wR:FOk Tryz.prog 59 pc:=fk [(94,wE),(95,wF)] ⟨Fa,Fb,trivial⟩ Tryz.func59 (.t (.two (.t (.loop [.par 0 [] 82 y82,.s 1,.s 5] .no)) .no))
end R
namespace R
open Go.RowKit
open D
theorem CJ:FOk Tryz.prog 96 uG:=fk [] trivial Tryz.func96 (.t (.two (.t (.loop [.par 0 [] 183 yI,.s 1,.s 5] .no)) .no))
theorem vz:FOk Tryz.prog 60 oz:=fk [(96,uG)] ⟨CJ,trivial⟩ Tryz.func60 (.t (.two (.t (.loop [.par 0 [] 126 Hi,.s 1,.s 5] .no)) .no))
theorem zJ:FOk Tryz.prog 29 rJ:=fk [(59,pc),(60,oz)] ⟨wR,vz,trivial⟩ Tryz.func29 .no
theorem vA:FOk Tryz.prog 30 oA:=fk [] trivial Tryz.func30 (.t (.two (.t (.loop [.par 0 [] 91 y91,.s 1,.s 5] .no)) .no))
theorem CK:FOk Tryz.prog 10 uH:=fk [(28,sR),(29,rJ),(30,oA)] ⟨BN,zJ,vA,trivial⟩ Tryz.func10 .no
theorem Fc:FOk Tryz.prog 11 wG:=fk [] trivial Tryz.func11 (.t (.two (.t (.loop [.par 0 [] 67 y67,.s 1,.s 5] .no)) .no))
theorem Fe:FOk Tryz.prog 12 wH:=fk [] trivial Tryz.func12 (.t (.two (.t (.loop [.s 1,.s 5] .no)) .no))
theorem qo:FOk Tryz.prog 3 qf:=fk [(4,yL),(5,pW),(6,yU),(7,qc),(8,Bl),(9,y6),(10,uH),(11,wG),(12,wH)] ⟨Hs,xM,HB,xW,Jz,HH,CK,Fc,Fe,trivial⟩ Tryz.func3 .no
end R
namespace D
open Go.RowKit
theorem qp (x0:(Int×Yq4)×Yq6×Yq7×ByteArray) (x1:Int) (r:Bool) (hm:dE x0 x1=some r) {I:Hp} {w0:World} (v0_0:Value) (v0_1:Value) (v0_2:Value) (v0_3:Value) (r0_0:(af 109 (aD (af 3 a7) (af 199 (aD a7 (aD a7 (aD a7 a7)))))).rd I [v0_0] x0.1.2) (r0_1:(af 111 (aD a7 (aD (af 4 oJ) (af 57 (af 3 a7))))).rd I [v0_1] x0.2.1.1) (r0_2:(af 117 (aD a7 (aD (af 236 (aD a7 (aD a7 (aD a7 a7)))) a7))).rd I [v0_2] x0.2.1.2) (r0_3:(af 93 (aD a7 (aD a7 a7))).rd I [v0_3] x0.2.2.1) (hL:Lay Tryz.prog I):Con Tryz.prog 3 #[.agg #[.int .i64 x0.1.1,v0_0,v0_1,v0_2,v0_3,.string x0.2.2.2],.int .i64 x1] I w0 [] (fun v=>v= .bool r) (fun _=>[]):=fun w C hs =>
 ((R.qo).con rfl w0 I undef [.agg #[.int .i64 x0.1.1,v0_0,v0_1,v0_2,v0_3,.string x0.2.2.2],.int .i64 x1] (x0,(x1,())) r hL ⟨_,_,rfl,⟨[.int .i64 x0.1.1,v0_0,v0_1,v0_2,v0_3,.string x0.2.2.2],rfl,⟨_,_,rfl,⟨_,_,rfl,rfl,r0_0⟩,⟨_,_,rfl,⟨_,_,rfl,r0_1,r0_2⟩,⟨_,_,rfl,r0_3,rfl⟩⟩⟩⟩,⟨_,_,rfl,⟨[.int .i64 x1],rfl,rfl⟩,rfl⟩⟩ hm w C hs).mono fun e w' ⟨v,he,_,hst⟩=>by
  obtain ⟨h1,h2⟩:=R.vS (h1:=fun _=>rfl) (show St I w0 w' (Ch.own R.Ty.bool.rep [v] r::C) from hst)
  exact ⟨v,he,(List.cons.inj h1).1,h2⟩
end D
namespace D
open Go.RowKit
def I64 (n:Int):Prop:= -9223372036854775808<=n/\n<=9223372036854775807
class Data (α:Type) where
 lim:α->Prop
 sm:α->Prop
instance:Data Int:=⟨I64,fun _=>True⟩
instance:Data Bool:=⟨fun _=>True,fun _=>True⟩
instance:Data ByteArray:=⟨fun s=>s.size<=9223372036854775807,fun s=>s.size<=1048576⟩
instance {α β:Type} [Data α] [Data β] :Data (α×β):=⟨fun x=>Data.lim x.1/\Data.lim x.2,fun x=>Data.sm x.1/\Data.sm x.2⟩
instance {α:Type} [Data α] :Data (List α):=⟨fun xs=>xs.length<=9223372036854775807/\ ∀x,x∈xs->Data.lim x,fun xs=>xs.length<=1048576/\ ∀x,x∈xs->Data.sm x⟩
structure Opens (P:Program) (t:TypeId) {α:Type} [Data α] (R:Rep α):Prop where
 out: ∀ {H:Type} (enc:TypeId×Value->H) (w:World) (fuel:Nat) (cs:List Value) (x:DataW H×List MemPlace),DataW.trod enc P w 0 (fun _=>true) true fuel t cs=some x-> ∃a:α,R.rd (hp w) cs a/\Data.lim a
theorem P4 {P:Program} {t:TypeId} (h:P.underlying t=some (.int .i64)):Opens P t a7:=by
 constructor
 intro H enc w fuel cs x hx
 obtain ⟨n,rfl,-,hw⟩:=DataW.trod_int h hx
 refine ⟨n,rfl,show I64 n from ?_⟩
 simp[Lit.wf,IntKind.min,IntKind.max,IntKind.signed,IntKind.bits] at hw
 unfold I64
 omega
theorem MZ {P:Program} {t:TypeId} (h:P.underlying t=some .bool):Opens P t oJ:=by
 constructor
 intro H enc w fuel cs x hx
 obtain ⟨n,rfl,-⟩:=DataW.trod_bool h hx
 exact ⟨n,rfl,trivial⟩
theorem HI {P:Program} {t:TypeId} (h:P.underlying t=some .string):Opens P t D0:=by
 constructor
 intro H enc w fuel cs x hx
 obtain ⟨n,rfl,-,hm⟩:=DataW.trod_string h hx
 exact ⟨n,rfl,show n.size<=_ by unfold maxLen at hm;omega⟩
theorem gr {P:Program} {t e:TypeId} {α:Type} [Data α] {R:Rep α} {E:TypeId} (h:P.underlying t=some (.slice e)) (hc:P.cellsOf e=R.size) (h0:0<R.size) (he:Opens P e R):Opens P t (af E R):=by
 constructor
 intro H enc w fuel cs x hx
 rcases Go.Deep.open_slice h hx with ⟨rfl,-⟩ | ⟨a,len,cap,m,n,D,Pl,rfl,-,hl,hm,hmm,-,hel⟩
 ·exact ⟨[],⟨none,0,rfl,by simp,.inl rfl⟩,Nat.zero_le _,fun x hx=>by cases hx⟩
 have hlm:m=cap:=by simpa using hmm
 subst hlm
 rw[hc] at hel
 by_cases hz:len=0
 ·subst hz
  exact ⟨[],⟨some a,m,rfl,by simp,.inl rfl⟩,Nat.zero_le _,fun x hx=>by cases hx⟩
 ·have hone: ∀i,i<len-> ∃c:List Value,∃y:α,c.length=R.size/\(∀j,j<R.size->w.cell? ((a.add (i*R.size)).add j)=c[j]?)/\R.rd (hp w) c y/\Data.lim y:=by
   intro i hi
   obtain ⟨c,h1,h2⟩:=hel i (by omega)
   obtain ⟨-,h3,h4⟩:=World.cells?_some h1
   obtain ⟨y,hy⟩:=he.out enc w _ _ _ h2
   exact ⟨c,y,h3,h4,hy⟩
  obtain ⟨c0,y0,hc0,hr0,-⟩:=hone 0 (by omega)
  have h00:=hr0 0 h0
  have hsome: ∃v,c0[0]? =some v:=⟨_,List.getElem?_eq_getElem (by omega)⟩
  obtain ⟨v,hv⟩:=hsome
  rw[hv] at h00
  have ha:(a.add (0*R.size)).add 0=a:=by simp[Addr.add]
  rw[ha] at h00
  obtain ⟨b,off,spot⟩:=a
  have hb: ∃ccs T fr,w.heap[b]? =some (.cells ccs T fr)/\spot=none:=by
   simp only[World.cell?] at h00
   split at h00
   ·rename_i ccs T fr heq
    cases spot with
    | none=>exact ⟨ccs,T,fr,heq,rfl⟩
    | some s=>simp at h00
   ·simp at h00
  obtain ⟨ccs,T,fr,hh,rfl⟩:=hb
  have hadd: ∀i j,(Addr.add ⟨b,off,none⟩ i).add j=⟨b,off+i+j,none⟩:=by
   intro i j
   by_cases h1:i=0 <;> by_cases h2:j=0 <;> simp[Addr.add,h1,h2,Nat.add_assoc]
  haveI:Inhabited α:=⟨y0⟩
  obtain ⟨X,hX⟩:=Go.Deep.choose_lt (α:=α) (n:=len) (p:=fun i y=> ∃c:List Value,c.length=R.size/\(∀j,j<R.size->ccs.toList[off+i*R.size+j]? =c[j]?)/\R.rd (hp w) c y/\Data.lim y) (fun i hi=>by
   obtain ⟨c,y,h1,h2,h3⟩:=hone i hi
   refine ⟨y,c,h1,fun j hj=>?_,h3⟩
   have:=h2 j hj
   rw[hadd] at this
   simp only[World.cell?,hh] at this
   simpa using this)
  have hlen:((List.range len).map X).length=len:=by simp
  have hel2: ∀i y,((List.range len).map X)[i]? =some y->i<len/\y=X i:=fun i y hy=>by
   have hi:i<len:=by have:=(List.getElem?_eq_some_iff.1 hy).1;omega
   exact ⟨hi,by simpa [hi] using hy.symm⟩
  refine ⟨(List.range len).map X,⟨some ⟨b,off,none⟩,m,by rw[hlen],by rw[hlen];unfold maxLen at hm;unfold lim;omega,.inr ⟨b,off,ccs,T,fr,rfl,hh,fun i y hy=>?_⟩⟩,by rw[hlen];unfold maxLen at hm;omega,fun y hy=>?_⟩
  ·obtain ⟨hi,rfl⟩:=hel2 i y hy
   obtain ⟨c,e1,e2,e3,-⟩:=hX i hi
   exact ⟨c,e1,e2,e3⟩
  ·obtain ⟨i,hi,he⟩:=List.mem_iff_getElem?.1 hy |>.imp fun i hi=>hel2 i y hi
   obtain ⟨-,-,-,-,e4⟩:=hX i hi
   rw[he];exact e4
structure OpensFs (P:Program) (fs:List Field) (o:Nat) {α:Type} [Data α] (R:Rep α):Prop where
 out: ∀ {H:Type} (enc:TypeId×Value->H) (w:World) (fuel:Nat) (cs:List Value),cs.length=o+R.size->
  (∀f∈fs,∃x,DataW.trod enc P w 0 (fun _=>true) true fuel f.type ((cs.drop f.offset).take (P.cellsOf f.type))=some x)-> ∃a:α,R.rd (hp w) (cs.drop o) a/\Data.lim a
theorem gK {P:Program} {f:Field} {o:Nat} {α:Type} [Data α] {R:Rep α} (ho:f.offset=o) (hc:P.cellsOf f.type=R.size) (h:Opens P f.type R):OpensFs P [f] o R:=by
 constructor
 intro H enc w fuel cs hl hx
 obtain ⟨x,hx⟩:=hx f (by simp)
 rw[ho,hc,List.take_of_length_le (by rw[bJ];omega)] at hx
 exact h.out enc w _ _ _ hx
theorem cq {P:Program} {f:Field} {fs:List Field} {o:Nat} {α β:Type} [Data α] [Data β] {R:Rep α} {S:Rep β} (ho:f.offset=o) (hc:P.cellsOf f.type=R.size) (h:Opens P f.type R) (hs:OpensFs P fs (o+R.size) S):OpensFs P (f::fs) o (aD R S):=by
 constructor
 intro H enc w fuel cs hl hx
 have hl':cs.length=o+(R.size+S.size):=hl
 obtain ⟨b,hb,hlb⟩:=hs.out enc w fuel cs (by omega) (fun g hg=>hx g (by simp[hg]))
 obtain ⟨x,hx⟩:=hx f (by simp)
 rw[ho,hc] at hx
 obtain ⟨a,ha,hla⟩:=h.out enc w _ _ _ hx
 refine ⟨(a,b),⟨(cs.drop o).take R.size,cs.drop (o+R.size),?_,ha,hb⟩,hla,hlb⟩
 rw[<-List.drop_drop,List.take_append_drop]
theorem dN {P:Program} {t:TypeId} {fs:Array Field} {α:Type} [Data α] {R:Rep α} (h:P.underlying t=some (.struct fs)) (hc:P.cellsOf t=R.size) (hf:OpensFs P fs.toList 0 R):Opens P t R:=by
 constructor
 intro H enc w fuel cs x hx
 obtain ⟨xs,n,-,-,hl,hn,hel⟩:=DataW.trod_struct h hx
 have:=hf.out enc w n cs (by omega) (fun f hm=>by
  obtain ⟨i,hi,rfl⟩:=List.getElem_of_mem hm
  have h1:fs[i]? =some fs.toList[i]:=by simp
  exact ⟨_,(hel i _ h1).trans (List.getElem?_eq_getElem (by simp at hi;omega))⟩)
 simpa using this
theorem St.below {w0 w:World} {cs:List Ch} (h:St (hp w0) w0 w cs):Below w0.heap.size w0 w:=by
 obtain ⟨⟨h1,h2,h3,h4⟩,h5,-⟩:=h
 refine ⟨h1,h2,h3,h4,fun b hb=>?_⟩
 have e:w0.heap[b]? =some w0.heap[b]:=Array.getElem?_eq_getElem hb
 rw[e];exact h5 b _ e
end D
namespace D
open Go.RowKit
theorem b7 {n:Int} (h1: -9223372036854775808<=n) (h2:n<=9223372036854775807):i64.wrap n=n:=by
 simp only[IntKind.wrap,IntKind.bits,IntKind.signed,Bool.true_and]
 split <;> rename_i h <;> simp at h <;> omega
theorem ae {i:Nat} (h:i<9223372036854775807):i64.wrap ((i:Int)+1)=((i+1:Nat):Int):=by
 rw[b7 (by omega) (by omega)];rfl
theorem az {α:Type} {xs:List α} {i:Nat} (h:i<xs.length):aG xs (i:Int)=some (xs[i]):=by
 unfold aG
 rw[if_pos (Int.natCast_nonneg _)]
 simp[h]
theorem bK {i n:Nat} (h:i<n):decide ((i:Int)<(n:Int))=true:=by simp[h]
theorem bw {n:Nat} :decide ((n:Int)<(n:Int))=false:=by simp
theorem fV (k:Nat) (h:k<=9223372036854775807):k<aP:=by unfold aP;omega
theorem uM {α:Type} {b n:Nat} {z:α} (h:n*b<=140737488355328):mkI b (n:Int) z=some (List.replicate n z):=by
 unfold mkI
 rw[if_pos ⟨Int.natCast_nonneg _,by simpa using h⟩];simp
theorem HJ {R S:Type} {f:S->Option (Out R S)} (inv:Nat->S) (N:Nat) (h: ∀i,i<N->f (inv i)=some (.nxt (inv (i+1)))): ∀(m i k:Nat),i+m=N->ak f (k+m) (inv i)=ak f k (inv N)
 | 0,i,k,e=>by rw[show i=N by omega];rfl
 | m+1,i,k,e=>by
  rw[<-Nat.add_assoc,ak,h i (by omega)]
  exact HJ inv N h m (i+1) k (by omega)
theorem HK {R S:Type} {f:S->Option (Out R S)} (inv:Nat->S) (N:Nat) {s:S} (h: ∀i,i<N->f (inv i)=some (.nxt (inv (i+1)))) (he:f (inv N)=some (.brk s)) (hN:N<aP):ak f aP (inv 0)=some (.brk s):=by
 have e:aP=(aP - N - 1)+1+N:=by omega
 rw[e,HJ inv N h N 0 _ (by omega),ak,he]
theorem toL {R α:Type} {f:List α×Int->Option (Out R (List α×Int))} {z:α} (xs:List α) (hN:xs.length<=9223372036854775807)
  (hstep: ∀ys i (h:i<xs.length),ys.length=xs.length->f (ys,(i:Int))=some (.nxt (ys.set i xs[i],((i+1:Nat):Int)))) (hend: ∀ys,ys.length=xs.length->f (ys,(xs.length:Int))=some (.brk (ys,(xs.length:Int)))) :
  ak f aP (List.replicate xs.length z,0)=some (.brk (xs,(xs.length:Int))):=by
 have h0:(List.replicate xs.length z,(0:Int))=(fun i:Nat=>(xs.take i++(List.replicate xs.length z).drop i,(i:Int))) 0:=by simp
 rw[h0]
 refine HK (fun i:Nat=>(xs.take i++(List.replicate xs.length z).drop i,(i:Int))) xs.length (fun i hi=>?_) ?_ (fV _ hN)
 ·have hl:(xs.take i++(List.replicate xs.length z).drop i).length=xs.length:=by
   rw[aC,aI,bJ,List.length_replicate];omega
  rw[hstep _ i hi hl]
  congr 3
  have ht:(xs.take i).length=i:=by rw[aI];omega
  rw[List.set_append_right _ _ (by omega),ht,Nat.sub_self,List.drop_eq_getElem_cons (by rw[List.length_replicate];exact hi),List.set_cons_zero,List.take_succ_eq_append_getElem hi,aA]
  rfl
 ·have:=hend xs rfl
  rw[List.take_of_length_le (aF _),List.drop_of_length_le (by rw[List.length_replicate];exact aF _),List.append_nil]
  exact this
def Ik {α:Type} [Data α] (m:α->Int->Option Int):Prop:= ∀x l,Data.lim x->0<=l->l<=1048576-> ∃r,m x l=some r/\(r<0\/(0<=r/\r<=l/\Data.sm x))
def Ff {α:Type} [Data α] (m:α->Option α):Prop:= ∀x,Data.sm x->m x=some x
def CL {α:Type} [Data α] [DecidableEq α] (m:α->α->Option Bool):Prop:= ∀x y,Data.sm x->Data.sm y->m x y=some (decide (x=y))
theorem acO {α:Type} [Data α] {f:Int×Int->Option Dq } (xs:List α)
  (hstep: ∀i (h:i<xs.length) l,0<=l->l<=1048576-> ∃r,f (l,(i:Int))=some (if r<0 then .ret (-1) else .nxt (r,((i+1:Nat):Int)))/\(r<0\/(0<=r/\r<=l/\Data.sm xs[i])))
  (hend: ∀l,f (l,(xs.length:Int))=some (.brk (l,(xs.length:Int)))): ∀(m i k:Nat) (l:Int),i+m=xs.length->m<k->0<=l->l<=1048576->
   ak f k (l,(i:Int))=some (.ret (-1))\/ ∃r,ak f k (l,(i:Int))=some (.brk (r,(xs.length:Int)))/\0<=r/\r<=l/\ ∀j (h:j<xs.length),i<=j->Data.sm xs[j]
 | 0,i,k,l,e,hk,h0,h1=>by
  obtain ⟨k,rfl⟩: ∃q,k=q+1:=⟨k - 1,by omega⟩
  obtain rfl:i=xs.length:=by omega
  exact .inr ⟨l,by rw[ak,hend],h0,Int.le_refl _,fun j hj hi=>by omega⟩
 | m+1,i,k,l,e,hk,h0,h1=>by
  obtain ⟨k,rfl⟩: ∃q,k=q+1:=⟨k - 1,by omega⟩
  obtain ⟨r,e1,e2⟩:=hstep i (by omega) l h0 h1
  rw[ak,e1]
  rcases e2 with e2 | ⟨e2,e3,e4⟩
  ·rw[if_pos e2];exact .inl rfl
  ·rw[if_neg (by omega)]
   rcases acO xs hstep hend m (i+1) k r (by omega) (by omega) e2 (by omega) with h | ⟨q,g1,g2,g3,g4⟩
   ·exact .inl h
   ·refine .inr ⟨q,g1,g2,by omega,fun j hj hi=>?_⟩
    by_cases hji:j=i
    ·subst hji;exact e4
    ·exact g4 j hj (by omega)
theorem szL {α:Type} [Data α] {f:Int×Int->Option Dq } (xs:List α) {l:Int} (hN:xs.length<=9223372036854775807)
  (hstep: ∀i (h:i<xs.length) l,0<=l->l<=1048576-> ∃r,f (l,(i:Int))=some (if r<0 then .ret (-1) else .nxt (r,((i+1:Nat):Int)))/\(r<0\/(0<=r/\r<=l/\Data.sm xs[i])))
  (hend: ∀l,f (l,(xs.length:Int))=some (.brk (l,(xs.length:Int)))) (h0:0<=l) (h1:l<=1048576) :
  ∃r,(if decide (i64.wrap (l - (xs.length:Int))<0) then (some (-1)) else (aJ (ak f aP (i64.wrap (l - (xs.length:Int)),0)) (fun r=>some r) (fun s4=>some s4.1)))=some r/\(r<0\/(0<=r/\r<=l/\Data.sm xs)):=by
 rw[b7 (by omega) (by omega)]
 by_cases h:l - (xs.length:Int)<0
 ·exact ⟨-1,by rw[if_pos (decide_eq_true h)],.inl (by decide)⟩
 ·rw[if_neg (by simpa using h)]
  rcases acO xs hstep hend xs.length 0 aP (l - xs.length) (by omega) (fV _ hN) (by omega) (by omega) with e | ⟨r,e,g1,g2,g3⟩
  ·exact ⟨-1,by rw[show ((0:Int))=((0:Nat):Int) from rfl,e];rfl,.inl (by decide)⟩
  ·refine ⟨r,by rw[show ((0:Int))=((0:Nat):Int) from rfl,e];rfl,.inr ⟨g1,by omega,by omega,fun x hx=>?_⟩⟩
   obtain ⟨j,hj,rfl⟩:=List.getElem_of_mem hx
   exact g3 j hj (Nat.zero_le _)
theorem szF {α:Type} [Data α] (xs:List α) {l:Int} (hN:xs.length<=9223372036854775807) (hf: ∀x:α,Data.sm x) (h0:0<=l) (h1:l<=1048576) :
  ∃r,(if decide (i64.wrap (l - (xs.length:Int))<0) then (some (-1)) else (some (i64.wrap (l - (xs.length:Int)))))=some r/\(r<0\/(0<=r/\r<=l/\Data.sm xs)):=by
 rw[b7 (by omega) (by omega)]
 by_cases h:l - (xs.length:Int)<0
 ·exact ⟨-1,by rw[if_pos (decide_eq_true h)],.inl (by decide)⟩
 ·exact ⟨_,by rw[if_neg (by simpa using h)],.inr ⟨by omega,by omega,by omega,fun x _=>hf x⟩⟩
theorem abN {α:Type} [DecidableEq α] {f:Int->Option (Out Bool Int)} (xs ys:List α) (hl:xs.length=ys.length)
  (hstep: ∀i (h:i<xs.length) (h':i<ys.length),f (i:Int)=some (if xs[i] =ys[i] then .nxt ((i+1:Nat):Int) else .ret false)) (hend:f (xs.length:Int)=some (.brk (xs.length:Int))): ∀(m i k:Nat),i+m=xs.length->m<k->
   ak f k (i:Int)=some (if xs.drop i=ys.drop i then .brk (xs.length:Int) else .ret false)
 | 0,i,k,e,hk=>by
  obtain ⟨k,rfl⟩: ∃q,k=q+1:=⟨k - 1,by omega⟩
  obtain rfl:i=xs.length:=by omega
  rw[ak,hend,List.drop_of_length_le (aF _),List.drop_of_length_le (by omega),if_pos rfl]
 | m+1,i,k,e,hk=>by
  obtain ⟨k,rfl⟩: ∃q,k=q+1:=⟨k - 1,by omega⟩
  have hi:i<xs.length:=by omega
  have hi':i<ys.length:=by omega
  have d1:=List.drop_eq_getElem_cons hi
  have d2:=List.drop_eq_getElem_cons hi'
  rw[ak,hstep i hi hi',d1,d2]
  by_cases h:xs[i] =ys[i]
  ·rw[if_pos h]
   simp only
   rw[abN xs ys hl hstep hend m (i+1) k (by omega) (by omega)]
   simp only[List.cons.injEq,h,true_and]
  ·rw[if_neg h]
   simp only[List.cons.injEq,h,false_and,if_false]
theorem eqL {α:Type} [DecidableEq α] {f:Int->Option (Out Bool Int)} (xs ys:List α) (hN:xs.length<=9223372036854775807)
  (hstep: ∀i (h:i<xs.length) (h':i<ys.length),f (i:Int)=some (if xs[i] =ys[i] then .nxt ((i+1:Nat):Int) else .ret false)) (hend:f (xs.length:Int)=some (.brk (xs.length:Int))) :
  (if (xs.length:Int) !=(ys.length:Int) then (some false) else (aJ (ak f aP 0) (fun r=>some r) (fun s4=>some true)))=some (decide (xs=ys)):=by
 by_cases hl:xs.length=ys.length
 ·rw[if_neg (by rw[hl];simp),show ((0:Int))=((0:Nat):Int) from rfl,abN xs ys hl hstep hend xs.length 0 aP (by omega) (fV _ hN)]
  by_cases h:xs=ys
  ·subst h;simp[aJ]
  ·simp[aJ,h]
 ·have:xs≠ys:=fun e=>hl (by rw[e])
  rw[if_pos (by simp;omega)];simp[this]
theorem gU {α:Type} {c d:Prop} [Decidable c] [Decidable d] {a b:α} (h:c↔d):(if c then some a else some b)=some (if d then a else b):=by
 by_cases k:c
 ·rw[if_pos k,if_pos (h.1 k)]
 ·rw[if_neg k,if_neg (fun e=>k (h.2 e))]
theorem pH {α:Type} {c d:Prop} [Decidable c] [Decidable d] {a b:α} (h:c↔ ¬d):(if c then some b else some a)=some (if d then a else b):=by
 by_cases k:d
 ·rw[if_neg (fun e=>h.1 e k),if_pos k]
 ·rw[if_pos (h.2 k),if_neg k]
theorem eqB {α:Type} [DecidableEq α] {f:Int->Option (Out Bool Int)} {K:Option Bool} (xs ys:List α) (hN:xs.length<=9223372036854775807) (hl:xs.length=ys.length)
  (hstep: ∀i (h:i<xs.length) (h':i<ys.length),f (i:Int)=some (if xs[i] =ys[i] then .nxt ((i+1:Nat):Int) else .ret false)) (hend:f (xs.length:Int)=some (.brk (xs.length:Int))) :
  aJ (ak f aP 0) (fun r=>some r) (fun s4=>K)=(if xs=ys then K else some false):=by
 rw[show ((0:Int))=((0:Nat):Int) from rfl,abN xs ys hl hstep hend xs.length 0 aP (by omega) (fV _ hN)]
 by_cases h:xs=ys
 ·subst h;simp[aJ]
 ·simp[aJ,h]
theorem ZW {f:Int->Option (Out Int Int)} (xs ys:List Int)
  (hstep: ∀i (h:i<xs.length) (h':i<ys.length),f (i:Int)=some (if xs[i] < ys[i] then .ret (-1) else if xs[i] > ys[i] then .ret 1 else .nxt ((i+1:Nat):Int))) (hend: ∀i,xs.length<=i\/ys.length<=i->f (i:Int)=some (.brk (i:Int))): ∀(m i k:Nat),i+m=xs.length->m<k->
   (∃r,ak f k (i:Int)=some (.ret r)/\r≠0/\xs≠ys)\/ ∃s,ak f k (i:Int)=some (.brk s)/\(xs.length=ys.length->xs.drop i=ys.drop i)
 | 0,i,k,e,hk=>by
  obtain ⟨k,rfl⟩: ∃q,k=q+1:=⟨k - 1,by omega⟩
  exact .inr ⟨_,by rw[ak,hend i (.inl (by omega))],fun h=>by rw[List.drop_of_length_le (by omega),List.drop_of_length_le (by omega)]⟩
 | m+1,i,k,e,hk=>by
  obtain ⟨k,rfl⟩: ∃q,k=q+1:=⟨k - 1,by omega⟩
  have hi:i<xs.length:=by omega
  by_cases hi':i<ys.length
  ·have hne: ∀h:xs[i] ≠ys[i],xs≠ys:=fun h e=>h (by subst e;rfl)
   rw[ak,hstep i hi hi']
   by_cases h1:xs[i] < ys[i]
   ·rw[if_pos h1];exact .inl ⟨-1,rfl,by decide,hne (by omega)⟩
   ·rw[if_neg h1]
    by_cases h2:xs[i] > ys[i]
    ·rw[if_pos h2];exact .inl ⟨1,rfl,by decide,hne (by omega)⟩
    ·rw[if_neg h2]
     rcases ZW xs ys hstep hend m (i+1) k (by omega) (by omega) with h | ⟨s,g1,g2⟩
     ·exact .inl h
     ·refine .inr ⟨s,g1,fun hl=>?_⟩
      have h3:xs[i] =ys[i]:=by omega
      rw[List.drop_eq_getElem_cons hi,List.drop_eq_getElem_cons hi',g2 hl,h3]
  ·exact .inr ⟨_,by rw[ak,hend i (.inr (by omega))],fun h=>by omega⟩
instance:LawfulBEq ByteArray where
 eq_of_beq {a b} h:=ByteArray.ext (eq_of_beq (show (a.data==b.data)=true from h))
 rfl {a}:=beq_self_eq_true a.data
theorem eY {α β:Type} (p:α×β):(p.1,p.2)=p:=rfl
theorem aE {α:Type} [Data α] {xs:List α} (h:Data.sm xs):xs.length<=1048576/\ ∀x,x∈xs->Data.sm x:=h
theorem eZ {α:Type} [Data α] {xs:List α} (h:Data.lim xs):xs.length<=9223372036854775807/\ ∀x,x∈xs->Data.lim x:=h
end D
namespace D
open Go.RowKit
theorem Lm:Ik tG:=fun xs l hl h0 h1=>szF xs (eZ hl).1 (fun _=>trivial) h0 h1
theorem P5:Ik u9:=fun xs l hl h0 h1=>szF xs (eZ hl).1 (fun _=>⟨trivial,trivial,trivial,trivial⟩) h0 h1
theorem P6:Ik qF:=by
 intro x l hl h0 h1
 unfold qF
 try simp only[eY]
 obtain ⟨r1,e1,k1⟩:=Lm x.1 l hl.1 (by omega) (by omega)
 rw[e1];simp only[aa]
 rcases k1 with k1 | ⟨k1,j1,s1⟩
 ·exact ⟨-1,by rw[if_pos (decide_eq_true k1)],.inl (by decide)⟩
 rw[if_neg (by simpa using k1)]
 obtain ⟨r2,e2,k2⟩:=P5 x.2 r1 hl.2 (by omega) (by omega)
 rw[e2];simp only[aa]
 rcases k2 with k2 | ⟨k2,j2,s2⟩
 ·exact ⟨-1,by rw[if_pos (decide_eq_true k2)],.inl (by decide)⟩
 rw[if_neg (by simpa using k2)]
 exact ⟨_,rfl,.inr ⟨by omega,by omega,⟨s1,s2⟩⟩⟩
theorem M0:Ik so:=fun xs l hl h0 h1=>szL (f:=kF xs) xs (eZ hl).1 (fun i h l k0 k1=>by
 obtain ⟨r,e,hr⟩:=P6 xs[i] l ((eZ hl).2 _ (List.getElem_mem h)) k0 k1
 refine ⟨r,?_,hr⟩
 simp only[kF,bK h,if_true,az h,aa,eY,e,ae (show i<9223372036854775807 by have:=(eZ hl).1;omega)]
 exact gU (by simp)) (fun l=>by simp only[kF,bw];rfl) h0 h1
theorem JF:Ik nA:=by
 intro x l hl h0 h1
 unfold nA
 try simp only[eY]
 obtain ⟨r1,e1,k1⟩:=M0 x.2 l hl.2 (by omega) (by omega)
 rw[e1];simp only[aa]
 rcases k1 with k1 | ⟨k1,j1,s1⟩
 ·exact ⟨-1,by rw[if_pos (decide_eq_true k1)],.inl (by decide)⟩
 rw[if_neg (by simpa using k1)]
 exact ⟨_,rfl,.inr ⟨by omega,by omega,⟨trivial,s1⟩⟩⟩
theorem P7:Ik vc:=fun xs l hl h0 h1=>szF xs (eZ hl).1 (fun _=>trivial) h0 h1
theorem P8:Ik vd:=fun xs l hl h0 h1=>szL (f:=lZ xs) xs (eZ hl).1 (fun i h l k0 k1=>by
 obtain ⟨r,e,hr⟩:=Lm xs[i] l ((eZ hl).2 _ (List.getElem_mem h)) k0 k1
 refine ⟨r,?_,hr⟩
 simp only[lZ,bK h,if_true,az h,aa,eY,e,ae (show i<9223372036854775807 by have:=(eZ hl).1;omega)]
 exact gU (by simp)) (fun l=>by simp only[lZ,bw];rfl) h0 h1
theorem Fg:Ik kG:=by
 intro x l hl h0 h1
 unfold kG
 try simp only[eY]
 obtain ⟨r1,e1,k1⟩:=P7 x.2.1 l hl.2.1 (by omega) (by omega)
 rw[e1];simp only[aa]
 rcases k1 with k1 | ⟨k1,j1,s1⟩
 ·exact ⟨-1,by rw[if_pos (decide_eq_true k1)],.inl (by decide)⟩
 rw[if_neg (by simpa using k1)]
 obtain ⟨r2,e2,k2⟩:=P8 x.2.2 r1 hl.2.2 (by omega) (by omega)
 rw[e2];simp only[aa]
 rcases k2 with k2 | ⟨k2,j2,s2⟩
 ·exact ⟨-1,by rw[if_pos (decide_eq_true k2)],.inl (by decide)⟩
 rw[if_neg (by simpa using k2)]
 exact ⟨_,rfl,.inr ⟨by omega,by omega,⟨trivial,s1,s2⟩⟩⟩
theorem CM:Ik mX:=fun xs l hl h0 h1=>szL (f:=fX xs) xs (eZ hl).1 (fun i h l k0 k1=>by
 obtain ⟨r,e,hr⟩:=Fg xs[i] l ((eZ hl).2 _ (List.getElem_mem h)) k0 k1
 refine ⟨r,?_,hr⟩
 simp only[fX,bK h,if_true,az h,aa,eY,e,ae (show i<9223372036854775807 by have:=(eZ hl).1;omega)]
 exact gU (by simp)) (fun l=>by simp only[fX,bw];rfl) h0 h1
theorem M2:Ik sp:=fun xs l hl h0 h1=>szF xs (eZ hl).1 (fun _=>⟨trivial,trivial,trivial,trivial⟩) h0 h1
theorem TL:Ik tH:=by
 intro x l hl h0 h1
 unfold tH
 try simp only[eY]
 obtain ⟨r1,e1,k1⟩:=M2 x l hl (by omega) (by omega)
 rw[e1];simp only[aa]
 rcases k1 with k1 | ⟨k1,j1,s1⟩
 ·exact ⟨-1,by rw[if_pos (decide_eq_true k1)],.inl (by decide)⟩
 rw[if_neg (by simpa using k1)]
 exact ⟨_,rfl,.inr ⟨by omega,by omega,s1⟩⟩
theorem CN:Ik jD:=by
 intro x l hl h0 h1
 unfold jD
 try simp only[eY]
 obtain ⟨r1,e1,k1⟩:=TL x.2.1 l hl.2.1 (by omega) (by omega)
 rw[e1];simp only[aa]
 rcases k1 with k1 | ⟨k1,j1,s1⟩
 ·exact ⟨-1,by rw[if_pos (decide_eq_true k1)],.inl (by decide)⟩
 rw[if_neg (by simpa using k1)]
 exact ⟨_,rfl,.inr ⟨by omega,by omega,⟨trivial,s1,trivial⟩⟩⟩
theorem BO:Ik lF:=fun xs l hl h0 h1=>szL (f:=fl xs) xs (eZ hl).1 (fun i h l k0 k1=>by
 obtain ⟨r,e,hr⟩:=CN xs[i] l ((eZ hl).2 _ (List.getElem_mem h)) k0 k1
 refine ⟨r,?_,hr⟩
 simp only[fl,bK h,if_true,az h,aa,eY,e,ae (show i<9223372036854775807 by have:=(eZ hl).1;omega)]
 exact gU (by simp)) (fun l=>by simp only[fl,bw];rfl) h0 h1
theorem HL:Ik l5:=by
 intro x l hl h0 h1
 unfold l5
 try simp only[eY]
 obtain ⟨r1,e1,k1⟩:=CM x.1 l hl.1 (by omega) (by omega)
 rw[e1];simp only[aa]
 rcases k1 with k1 | ⟨k1,j1,s1⟩
 ·exact ⟨-1,by rw[if_pos (decide_eq_true k1)],.inl (by decide)⟩
 rw[if_neg (by simpa using k1)]
 obtain ⟨r2,e2,k2⟩:=BO x.2 r1 hl.2 (by omega) (by omega)
 rw[e2];simp only[aa]
 rcases k2 with k2 | ⟨k2,j2,s2⟩
 ·exact ⟨-1,by rw[if_pos (decide_eq_true k2)],.inl (by decide)⟩
 rw[if_neg (by simpa using k2)]
 exact ⟨_,rfl,.inr ⟨by omega,by omega,⟨s1,s2⟩⟩⟩
theorem BP:Ik lG:=fun xs l hl h0 h1=>szF xs (eZ hl).1 (fun _=>⟨trivial,trivial,trivial⟩) h0 h1
theorem M3:Ik oQ:=by
 intro x l hl h0 h1
 unfold oQ
 try simp only[eY]
 obtain ⟨r1,e1,k1⟩:=JF x.1 l hl.1 (by omega) (by omega)
 rw[e1];simp only[aa]
 rcases k1 with k1 | ⟨k1,j1,s1⟩
 ·exact ⟨-1,by rw[if_pos (decide_eq_true k1)],.inl (by decide)⟩
 rw[if_neg (by simpa using k1)]
 obtain ⟨r2,e2,k2⟩:=HL x.2.1 r1 hl.2.1 (by omega) (by omega)
 rw[e2];simp only[aa]
 rcases k2 with k2 | ⟨k2,j2,s2⟩
 ·exact ⟨-1,by rw[if_pos (decide_eq_true k2)],.inl (by decide)⟩
 rw[if_neg (by simpa using k2)]
 obtain ⟨r3,e3,k3⟩:=BP x.2.2.1 r2 hl.2.2.1 (by omega) (by omega)
 rw[e3];simp only[aa]
 rcases k3 with k3 | ⟨k3,j3,s3⟩
 ·exact ⟨-1,by rw[if_pos (decide_eq_true k3)],.inl (by decide)⟩
 rw[if_neg (by simpa using k3)]
 rw[b7 (by have:x.2.2.2.size<=9223372036854775807:=hl.2.2.2;omega) (by omega)]
 by_cases k4:r3 - (x.2.2.2.size:Int)<0
 ·exact ⟨-1,by rw[if_pos (decide_eq_true k4)],.inl (by decide)⟩
 rw[if_neg (by simpa using k4)]
 have s4:x.2.2.2.size<=1048576:=by omega
 exact ⟨_,rfl,.inr ⟨by omega,by omega,⟨s1,s2,s3,s4⟩⟩⟩
theorem Ln:Ff pR:=by
 intro xs hx
 have hn:=(aE hx).1
 unfold pR
 rw[uM (by omega)];simp only[aa]
 rw[toL (f:=nC xs) xs (by omega) (fun ys i h hy=>by simp only[nC,bK h,if_true,az h,az (show i<ys.length by omega),aa,eY,ae (show i<9223372036854775807 by omega),Int.toNat_natCast]) (fun ys hy=>by simp only[nC,bw];rfl)]
 rfl
theorem TM:Ff tK:=by
 intro x hx
 unfold tK
 simp only[eY,aa]
theorem P9:Ff qI:=by
 intro xs hx
 have hn:=(aE hx).1
 unfold qI
 rw[uM (by omega)];simp only[aa]
 rw[toL (f:=mc xs) xs (by omega) (fun ys i h hy=>by simp only[mc,bK h,if_true,az h,az (show i<ys.length by omega),aa,eY,TM xs[i] ((aE hx).2 _ (List.getElem_mem h)),ae (show i<9223372036854775807 by omega),Int.toNat_natCast]) (fun ys hy=>by simp only[mc,bw];rfl)]
 rfl
theorem Qa:Ff qJ:=by
 intro x hx
 unfold qJ
 simp only[eY,aa,Ln x.1 hx.1,P9 x.2 hx.2]
theorem M4:Ff oW:=by
 intro xs hx
 have hn:=(aE hx).1
 unfold oW
 rw[uM (by omega)];simp only[aa]
 rw[toL (f:=kK xs) xs (by omega) (fun ys i h hy=>by simp only[kK,bK h,if_true,az h,az (show i<ys.length by omega),aa,eY,Qa xs[i] ((aE hx).2 _ (List.getElem_mem h)),ae (show i<9223372036854775807 by omega),Int.toNat_natCast]) (fun ys hy=>by simp only[kK,bw];rfl)]
 rfl
theorem JG:Ff nD:=by
 intro x hx
 unfold nD
 simp only[eY,aa,M4 x.2 hx.2]
theorem Qb:Ff qK:=by
 intro xs hx
 have hn:=(aE hx).1
 unfold qK
 rw[uM (by omega)];simp only[aa]
 rw[toL (f:=me xs) xs (by omega) (fun ys i h hy=>by simp only[me,bK h,if_true,az h,az (show i<ys.length by omega),aa,eY,ae (show i<9223372036854775807 by omega),Int.toNat_natCast]) (fun ys hy=>by simp only[me,bw];rfl)]
 rfl
theorem Qc:Ff qL:=by
 intro xs hx
 have hn:=(aE hx).1
 unfold qL
 rw[uM (by omega)];simp only[aa]
 rw[toL (f:=mf xs) xs (by omega) (fun ys i h hy=>by simp only[mf,bK h,if_true,az h,az (show i<ys.length by omega),aa,eY,Ln xs[i] ((aE hx).2 _ (List.getElem_mem h)),ae (show i<9223372036854775807 by omega),Int.toNat_natCast]) (fun ys hy=>by simp only[mf,bw];rfl)]
 rfl
theorem Fh:Ff kL:=by
 intro x hx
 unfold kL
 simp only[eY,aa,Qb x.2.1 hx.2.1,Qc x.2.2 hx.2.2]
theorem CO:Ff jG:=by
 intro xs hx
 have hn:=(aE hx).1
 unfold jG
 rw[uM (by omega)];simp only[aa]
 rw[toL (f:=gb xs) xs (by omega) (fun ys i h hy=>by simp only[gb,bK h,if_true,az h,az (show i<ys.length by omega),aa,eY,Fh xs[i] ((aE hx).2 _ (List.getElem_mem h)),ae (show i<9223372036854775807 by omega),Int.toNat_natCast]) (fun ys hy=>by simp only[gb,bw];rfl)]
 rfl
theorem Qd:Ff qM:=by
 intro x hx
 unfold qM
 simp only[eY,aa]
theorem M5:Ff oX:=by
 intro xs hx
 have hn:=(aE hx).1
 unfold oX
 rw[uM (by omega)];simp only[aa]
 rw[toL (f:=kM xs) xs (by omega) (fun ys i h hy=>by simp only[kM,bK h,if_true,az h,az (show i<ys.length by omega),aa,eY,Qd xs[i] ((aE hx).2 _ (List.getElem_mem h)),ae (show i<9223372036854775807 by omega),Int.toNat_natCast]) (fun ys hy=>by simp only[kM,bw];rfl)]
 rfl
theorem TN:Ff tL:=by
 intro x hx
 unfold tL
 simp only[eY,aa,M5 x hx]
theorem CP:Ff jH:=by
 intro x hx
 unfold jH
 simp only[eY,aa,TN x.2.1 hx.2.1]
theorem BQ:Ff iY:=by
 intro xs hx
 have hn:=(aE hx).1
 unfold iY
 rw[uM (by omega)];simp only[aa]
 rw[toL (f:=fp xs) xs (by omega) (fun ys i h hy=>by simp only[fp,bK h,if_true,az h,az (show i<ys.length by omega),aa,eY,CP xs[i] ((aE hx).2 _ (List.getElem_mem h)),ae (show i<9223372036854775807 by omega),Int.toNat_natCast]) (fun ys hy=>by simp only[fp,bw];rfl)]
 rfl
theorem HM:Ff mg:=by
 intro x hx
 unfold mg
 simp only[eY,aa,CO x.1 hx.1,BQ x.2 hx.2]
theorem CQ:Ff jI:=by
 intro x hx
 unfold jI
 simp only[eY,aa]
theorem BR:Ff iZ:=by
 intro xs hx
 have hn:=(aE hx).1
 unfold iZ
 rw[uM (by omega)];simp only[aa]
 rw[toL (f:=fq xs) xs (by omega) (fun ys i h hy=>by simp only[fq,bK h,if_true,az h,az (show i<ys.length by omega),aa,eY,CQ xs[i] ((aE hx).2 _ (List.getElem_mem h)),ae (show i<9223372036854775807 by omega),Int.toNat_natCast]) (fun ys hy=>by simp only[fq,bw];rfl)]
 rfl
theorem M6:Ff iD:=by
 intro x hx
 unfold iD
 simp only[eY,aa,JG x.1 hx.1,HM x.2.1 hx.2.1,BR x.2.2.1 hx.2.2.1]
theorem TO:CL tP:=by
 intro x y hx hy
 unfold tP
 try simp only[eY,aa]
 repeat' split
 all_goals simp_all[Prod.ext_iff]
theorem Qe:CL oi:=fun xs ys hx hy=>eqL (f:=mm xs ys) xs ys (by have:=(aE hx).1;omega) (fun i h h'=>by
 simp only[mm,bK h,if_true,az h,az h',aa,eY,TO xs[i] ys[i] ((aE hx).2 _ (List.getElem_mem h)) ((aE hy).2 _ (List.getElem_mem h')),ae (show i<9223372036854775807 by have:=(aE hx).1;omega)]
 first | exact gU (by simp) | exact pH (by simp) | exact gU (by simp[Prod.ext_iff])) (by simp only[mm,bw];rfl)
theorem Lo:CL tQ:=fun xs ys hx hy=>eqL (f:=nE xs ys) xs ys (by have:=(aE hx).1;omega) (fun i h h'=>by
 simp only[nE,bK h,if_true,az h,az h',aa,eY,ae (show i<9223372036854775807 by have:=(aE hx).1;omega)]
 first | exact gU (by simp) | exact pH (by simp) | exact gU (by simp[Prod.ext_iff])) (by simp only[nE,bw];rfl)
theorem TP:CL tR:=by
 intro x y hx hy
 unfold tR
 try simp only[eY,aa]
 repeat' split
 all_goals simp_all[Prod.ext_iff]
theorem Qf:CL vi:=fun xs ys hx hy=>eqL (f:=mn xs ys) xs ys (by have:=(aE hx).1;omega) (fun i h h'=>by
 simp only[mn,bK h,if_true,az h,az h',aa,eY,TP xs[i] ys[i] ((aE hx).2 _ (List.getElem_mem h)) ((aE hy).2 _ (List.getElem_mem h')),ae (show i<9223372036854775807 by have:=(aE hx).1;omega)]
 first | exact gU (by simp) | exact pH (by simp) | exact gU (by simp[Prod.ext_iff])) (by simp only[mn,bw];rfl)
theorem Qg:CL qR:=by
 intro x y hx hy
 unfold qR
 try simp only[eY,aa,Lo x.1 y.1 hx.1 hy.1,Qf x.2 y.2 hx.2 hy.2]
 repeat' split
 all_goals simp_all[Prod.ext_iff]
theorem M7:CL sv:=fun xs ys hx hy=>eqL (f:=kV xs ys) xs ys (by have:=(aE hx).1;omega) (fun i h h'=>by
 simp only[kV,bK h,if_true,az h,az h',aa,eY,Qg xs[i] ys[i] ((aE hx).2 _ (List.getElem_mem h)) ((aE hy).2 _ (List.getElem_mem h')),ae (show i<9223372036854775807 by have:=(aE hx).1;omega)]
 first | exact gU (by simp) | exact pH (by simp) | exact gU (by simp[Prod.ext_iff])) (by simp only[kV,bw];rfl)
theorem JH:CL nF:=by
 intro x y hx hy
 unfold nF
 try simp only[eY,aa,M7 x.2 y.2 hx.2 hy.2]
 repeat' split
 all_goals simp_all[Prod.ext_iff]
theorem Qh:CL vj:=fun xs ys hx hy=>eqL (f:=mo xs ys) xs ys (by have:=(aE hx).1;omega) (fun i h h'=>by
 simp only[mo,bK h,if_true,az h,az h',aa,eY,ae (show i<9223372036854775807 by have:=(aE hx).1;omega)]
 first | exact gU (by simp) | exact pH (by simp) | exact gU (by simp[Prod.ext_iff])) (by simp only[mo,bw];rfl)
theorem Qi:CL vk:=fun xs ys hx hy=>eqL (f:=mq xs ys) xs ys (by have:=(aE hx).1;omega) (fun i h h'=>by
 simp only[mq,bK h,if_true,az h,az h',aa,eY,Lo xs[i] ys[i] ((aE hx).2 _ (List.getElem_mem h)) ((aE hy).2 _ (List.getElem_mem h')),ae (show i<9223372036854775807 by have:=(aE hx).1;omega)]
 first | exact gU (by simp) | exact pH (by simp) | exact gU (by simp[Prod.ext_iff])) (by simp only[mq,bw];rfl)
theorem Fi:CL kW:=by
 intro x y hx hy
 unfold kW
 try simp only[eY,aa,Qh x.2.1 y.2.1 hx.2.1 hy.2.1,Qi x.2.2 y.2.2 hx.2.2 hy.2.2]
 repeat' split
 all_goals simp_all[Prod.ext_iff]
theorem CR:CL na:=fun xs ys hx hy=>eqL (f:=gl xs ys) xs ys (by have:=(aE hx).1;omega) (fun i h h'=>by
 simp only[gl,bK h,if_true,az h,az h',aa,eY,Fi xs[i] ys[i] ((aE hx).2 _ (List.getElem_mem h)) ((aE hy).2 _ (List.getElem_mem h')),ae (show i<9223372036854775807 by have:=(aE hx).1;omega)]
 first | exact gU (by simp) | exact pH (by simp) | exact gU (by simp[Prod.ext_iff])) (by simp only[gl,bw];rfl)
theorem Qj:CL qS:=by
 intro x y hx hy
 unfold qS
 try simp only[eY,aa]
 repeat' split
 all_goals simp_all[Prod.ext_iff]
theorem M8:CL sw:=fun xs ys hx hy=>eqL (f:=kX xs ys) xs ys (by have:=(aE hx).1;omega) (fun i h h'=>by
 simp only[kX,bK h,if_true,az h,az h',aa,eY,Qj xs[i] ys[i] ((aE hx).2 _ (List.getElem_mem h)) ((aE hy).2 _ (List.getElem_mem h')),ae (show i<9223372036854775807 by have:=(aE hx).1;omega)]
 first | exact gU (by simp) | exact pH (by simp) | exact gU (by simp[Prod.ext_iff])) (by simp only[kX,bw];rfl)
theorem TQ:CL tS:=by
 intro x y hx hy
 unfold tS
 try simp only[eY,aa,M8 x y hx hy]
 repeat' split
 all_goals simp_all[Prod.ext_iff]
theorem CS:CL jM:=by
 intro x y hx hy
 unfold jM
 try simp only[eY,aa,TQ x.2.1 y.2.1 hx.2.1 hy.2.1]
 repeat' split
 all_goals simp_all[Prod.ext_iff]
theorem BS:CL lN:=fun xs ys hx hy=>eqL (f:=fu xs ys) xs ys (by have:=(aE hx).1;omega) (fun i h h'=>by
 simp only[fu,bK h,if_true,az h,az h',aa,eY,CS xs[i] ys[i] ((aE hx).2 _ (List.getElem_mem h)) ((aE hy).2 _ (List.getElem_mem h')),ae (show i<9223372036854775807 by have:=(aE hx).1;omega)]
 first | exact gU (by simp) | exact pH (by simp) | exact gU (by simp[Prod.ext_iff])) (by simp only[fu,bw];rfl)
theorem HO:CL mr:=by
 intro x y hx hy
 unfold mr
 try simp only[eY,aa,CR x.1 y.1 hx.1 hy.1,BS x.2 y.2 hx.2 hy.2]
 repeat' split
 all_goals simp_all[Prod.ext_iff]
theorem CT:CL jN:=by
 intro x y hx hy
 unfold jN
 try simp only[eY,aa]
 repeat' split
 all_goals simp_all[Prod.ext_iff]
theorem BT:CL lO:=fun xs ys hx hy=>eqL (f:=fv xs ys) xs ys (by have:=(aE hx).1;omega) (fun i h h'=>by
 simp only[fv,bK h,if_true,az h,az h',aa,eY,CT xs[i] ys[i] ((aE hx).2 _ (List.getElem_mem h)) ((aE hy).2 _ (List.getElem_mem h')),ae (show i<9223372036854775807 by have:=(aE hx).1;omega)]
 first | exact gU (by simp) | exact pH (by simp) | exact gU (by simp[Prod.ext_iff])) (by simp only[fv,bw];rfl)
theorem M9:CL oY:=by
 intro x y hx hy
 unfold oY
 try simp only[eY,aa,JH x.1 y.1 hx.1 hy.1,HO x.2.1 y.2.1 hx.2.1 hy.2.1,BT x.2.2.1 y.2.2.1 hx.2.2.1 hy.2.2.1]
 repeat' split
 all_goals simp_all[Prod.ext_iff]
end D
namespace D
open Go.RowKit
theorem cz {R S:Type} {f:S->Option (Out R S)} (Inv:Nat->S->Prop) (Q:Out R S->Prop) (N:Nat)
  (h: ∀i s,i<=N->Inv i s->(i<N/\ ∃s',f s=some (.nxt s')/\Inv (i+1) s')\/ ∃o,f s=some o/\(∀s',o≠ .nxt s')/\Q o) {s:S} (h0:Inv 0 s) (hN:N<aP): ∃o,ak f aP s=some o/\Q o:=by
 have key: ∀(k i:Nat) (s:S),i<=N->N<i+k->Inv i s-> ∃o,ak f k s=some o/\Q o:=by
  intro k
  induction k with
  | zero=>intro i s h1 h2;omega
  | succ k ih =>
   intro i s h1 h2 hI
   rcases h i s h1 hI with ⟨hi,s',e,hI'⟩ | ⟨o,e,hn,hq⟩
   ·obtain ⟨o,e',hq⟩:=ih (i+1) s' (by omega) (by omega) hI'
    exact ⟨o,by rw[ak,e];exact e',hq⟩
   ·refine ⟨o,?_,hq⟩
    rw[ak,e]
    cases o with
    | nxt s'=>exact absurd rfl (hn s')
    | brk s'=>rfl
    | ret r=>rfl
 exact key aP 0 s (by omega) (by omega) h0
theorem mQ {R S:Type} {f:S->Option (Out R S)} (Inv:Nat->S->Prop) (N:Nat) (h: ∀i s,i<N->Inv i s-> ∃s',f s=some (.nxt s')/\Inv (i+1) s') (he: ∀s,Inv N s->f s=some (.brk s)) {s:S} (h0:Inv 0 s) (hN:N<aP): ∃s',ak f aP s=some (.brk s')/\Inv N s':=by
 obtain ⟨o,e,s',rfl,h⟩:=cz (f:=f) Inv (fun o=> ∃s',o= .brk s'/\Inv N s') N (fun i s hi hI=>by
  by_cases h1:i<N
  ·exact .inl ⟨h1,h i s h1 hI⟩
  ·obtain rfl:i=N:=by omega
   exact .inr ⟨_,he s hI,(fun s' e=>by cases e),s,rfl,hI⟩) h0 hN
 exact ⟨s',e,h⟩
theorem aO {R S:Type} {f:S->Option (Out R S)} (st:Nat->S) (N:Nat) (h: ∀i,i<N->f (st i)=some (.nxt (st (i+1)))) (he:f (st N)=some (.brk (st N))) (hN:N<aP):ak f aP (st 0)=some (.brk (st N)):=HK st N h he hN
theorem mV {k:Nat} (h:k<=9223372036854775807):k<aP:=fV k h
theorem wS {i:Nat} (h:i<=9223372036854775807):i64.wrap (i:Int)=(i:Int):=b7 (by omega) (by omega)
theorem jB {i:Nat} (h:i<=9223372036854775807):i64.wrap ((i:Int) - 1)=(i:Int) - 1:=b7 (by omega) (by omega)
theorem aL {α:Type} {b:Nat} {xs ys:List α} (h:(xs.length+ys.length)*b<=140737488355328):cM b xs ys=some (xs++ys):=by unfold cM;rw[if_pos h]
theorem bp {R S T:Type} {x:Option (Out R S)} {r:R} {kr:R->Option T} {k:S->Option T} (h:x=some (.ret r)):aJ x kr k=kr r:=by rw[h];rfl
theorem ah {R S T:Type} {x:Option (Out R S)} {s:S} {kr:R->Option T} {k:S->Option T} (h:x=some (.brk s)):aJ x kr k=k s:=by rw[h];rfl
def nth {α:Type} [Inhabited α] (xs:List α) (i:Int):α:=xs.getD i.toNat default
section
variable {α:Type} [Inhabited α] {xs ys:List α}
theorem aq {i:Int} (h0:0<=i) (h1:i<xs.length):aG xs i=some (nth xs i):=by
 unfold aG nth
 rw[if_pos h0]
 have:i.toNat<xs.length:=by omega
 simp[List.getD_eq_getElem?_getD,this]
theorem cf {i:Nat} (h:i<xs.length):nth xs (i:Int)=xs[i]:=by simp[nth,List.getD_eq_getElem?_getD,h]
theorem bq {i:Int} (h0:0<=i) (h1:i<xs.length):nth xs i∈xs:=by
 have:i.toNat<xs.length:=by omega
 have e:nth xs i=xs[i.toNat]:=by simp[nth,List.getD_eq_getElem?_getD,this]
 rw[e];exact List.getElem_mem this
theorem iL {i:Int} (h0:0<=i) (h1:i<xs.length):nth (xs++ys) i=nth xs i:=by
 have:i.toNat<xs.length:=by omega
 simp[nth,List.getD_eq_getElem?_getD,List.getElem?_append_left this]
theorem XZ {β:Type} [Inhabited β] {f:α->β} {i:Int} (h0:0<=i) (h1:i<xs.length):nth (xs.map f) i=f (nth xs i):=by
 have:i.toNat<xs.length:=by omega
 simp[nth,List.getD_eq_getElem?_getD,this]
theorem BU {x:α} (h:x∈xs): ∃i:Nat,i<xs.length/\nth xs (i:Int)=x:=by
 obtain ⟨i,hi,rfl⟩:=List.getElem_of_mem h
 exact ⟨i,hi,cf hi⟩
theorem pf {i:Int} {x:α} (h0:0<=i) (h1:i<xs.length):nth (xs.set i.toNat x) i=x:=by
 have:i.toNat<xs.length:=by omega
 simp[nth,List.getD_eq_getElem?_getD,this]
theorem tV {i j:Int} {x:α} (h0:0<=i) (hj:0<=j) (h:i≠j):nth (xs.set i.toNat x) j=nth xs j:=by
 have:i.toNat≠j.toNat:=by omega
 simp[nth,List.getD_eq_getElem?_getD,List.getElem?_set_ne this]
theorem X0 (h:xs.length=ys.length) (k: ∀i:Nat,i<xs.length->nth xs (i:Int)=nth ys (i:Int)):xs=ys:=by
 refine List.ext_getElem h fun i h1 h2=>?_
 have:=k i h1
 rwa [cf h1,cf h2] at this
end
section
variable {κ:Type} [DecidableEq κ]
def nbL (l:List κ):Option κ->List κ
 | none=>l
 | some x=>if x∈l then l else l++ [x]
def nbI (l:List κ):Option κ->Int
 | none=> -1
 | some x=>(l.idxOf x:Int)
def nbS (l:List κ) (os:List (Option κ)):List κ:=os.foldl nbL l
def nbR (l:List κ):List (Option κ)->List Int
 | [] =>[]
 | o::os=>nbI l o::nbR (nbL l o) os
theorem wT (l:List κ) (os:List (Option κ)) (o:Option κ):nbS l (os++ [o])=nbL (nbS l os) o:=by simp[nbS]
theorem tW: ∀(l:List κ) (os:List (Option κ)) (o:Option κ),nbR l (os++ [o])=nbR l os++ [nbI (nbS l os) o]
 | l,[],o=>rfl
 | l,p::os,o=>by
  show nbI l p::nbR (nbL l p) (os++ [o])=nbI l p::nbR (nbL l p) os++ [nbI (nbS (nbL l p) os) o]
  rw[tW (nbL l p) os o];rfl
theorem gL: ∀(l:List κ) (os:List (Option κ)),(nbR l os).length=os.length
 | l,[] =>rfl
 | l,o::os=>by show (nbR (nbL l o) os).length+1=_;rw[gL];rfl
theorem Na (l : List κ) (o : Option κ) : l <+: nbL l o := by
  cases o with
  | none => exact List.prefix_refl l
  | some x => unfold nbL; simp only; split
              · exact List.prefix_refl l
              · exact List.prefix_append l [x]
theorem lT: ∀(l:List κ) (os:List (Option κ)),l <+:nbS l os
 | l,[] =>List.prefix_refl l
 | l,o::os=>(Na l o).trans (lT (nbL l o) os)
theorem Qk {l : List κ} {o : Option κ} (h : l.Nodup) : (nbL l o).Nodup := by
  cases o with
  | none => exact h
  | some x => unfold nbL; simp only; split
              · exact h
              · rename_i hx; exact List.nodup_append.2 ⟨h, by simp, by rintro a ha b hb rfl; simp at hb; exact hx (hb ▸ ha)⟩
theorem sZ: ∀ {l:List κ} {os:List (Option κ)},l.Nodup->(nbS l os).Nodup
 | l,[],h=>h
 | l,o::os,h=>sZ (l:=nbL l o) (os:=os) (Qk h)
theorem Ql {l : List κ} {o : Option κ} {x : κ} : x ∈ nbL l o ↔ x ∈ l \/ o = some x := by
  cases o with
  | none => simp [nbL]
  | some y => unfold nbL; simp only; split
              · rename_i h; constructor
                · exact .inl
                · rintro (h' | h')
                  · exact h'
                  · simp at h'; exact h' ▸ h
              · simp; exact or_congr Iff.rfl eq_comm
theorem xZ: ∀ {l:List κ} {os:List (Option κ)} {x:κ},x∈nbS l os↔x∈l\/some x∈os
 | l,[],x=>by simp[nbS]
 | l,o::os,x=>by
  show x∈nbS (nbL l o) os↔_
  rw[xZ,Ql,List.mem_cons,or_assoc]
  exact or_congr Iff.rfl (or_congr eq_comm Iff.rfl)
theorem nj {l:List κ} {x:κ} (h:x∈l):nbL l (some x)=l:=by simp[nbL,h]
theorem nk {l:List κ} {x:κ} (h:x∉l):nbL l (some x)=l++ [x]:=by simp[nbL,h]
theorem qq {l:List κ} {x:κ} (h:x∉l):l.idxOf x=l.length:=List.idxOf_eq_length h
def bfS (nx:κ->List (Option κ)) (first:κ):Nat->List κ
 | 0=>[first]
 | i+1=>match (bfS nx first i)[i]? with
  | some x=>nbS (bfS nx first i) (nx x)
  | none=>bfS nx first i
def bfR (nx:κ->List (Option κ)) (first:κ):Nat->List (List Int)
 | 0=>[]
 | i+1=>bfR nx first i++(match (bfS nx first i)[i]? with
  | some x=>[nbR (bfS nx first i) (nx x)]
  | none=>[])
variable {nx:κ->List (Option κ)} {first:κ}
theorem Fj {i:Nat} (h:i<(bfS nx first i).length):bfS nx first (i+1)=nbS (bfS nx first i) (nx ((bfS nx first i)[i])):=by
 rw[bfS,List.getElem?_eq_getElem h]
theorem wU {i:Nat} (h:i<(bfS nx first i).length):bfR nx first (i+1)=bfR nx first i++ [nbR (bfS nx first i) (nx ((bfS nx first i)[i]))]:=by
 rw[bfR,List.getElem?_eq_getElem h]
theorem bG (i:Nat):bfS nx first i <+:bfS nx first (i+1):=by
 rw[bfS]
 split
 ·exact lT _ _
 ·exact List.prefix_refl _
theorem ya {i j:Nat} (h:i<=j):bfS nx first i <+:bfS nx first j:=by
 induction h with
 | refl=>exact List.prefix_refl _
 | step _ ih=>exact ih.trans (bG _)
theorem oE: ∀i,(bfS nx first i).Nodup
 | 0=>by simp[bfS]
 | i+1=>by
  rw[bfS]
  split
  ·exact sZ (oE i)
  ·exact oE i
theorem lj {G:κ->Prop} (h0:G first) (h: ∀x,G x-> ∀y,some y∈nx x->G y): ∀i,∀x∈bfS nx first i,G x
 | 0=>by simp[bfS];exact h0
 | i+1=>by
  rw[bfS]
  split
  ·rename_i y hy
   intro x hx
   rcases xZ.1 hx with hx | hx
   ·exact lj h0 h i x hx
   ·exact h y (lj h0 h i y (List.mem_of_getElem? hy)) x hx
  ·exact lj h0 h i
theorem HP (i:Nat):(bfS nx first i)[0]? =some first:=by
 obtain ⟨t,ht⟩:=ya (nx:=nx) (first:=first) (Nat.zero_le i)
 rw[<-ht];rfl
theorem km: ∀ {i:Nat},(∀j,j<i->j<(bfS nx first j).length)->(bfR nx first i).length=i
 | 0,_=>rfl
 | i+1,h=>by rw[wU (h i (by omega)),aC,km fun j hj=>h j (by omega)];rfl
def bfE (nx:κ->List (Option κ)) (first:κ) (N:Nat):Prop:=N=(bfS nx first N).length/\ ∀i,i<N->i<(bfS nx first i).length
theorem VC {B:Nat} (hB: ∀i,(bfS nx first i).length<=B): ∃N,N<=B/\bfE nx first N:=by
 have key: ∀m i,i+m=B->(∀j,j<i->j<(bfS nx first j).length)-> ∃N,N<=B/\bfE nx first N:=by
  intro m
  induction m with
  | zero =>
   intro i hi hj
   have h1:=hB i
   have h2:i<=(bfS nx first i).length:=by
    cases i with
    | zero=>omega
    | succ i =>
     have:=hj i (by omega)
     have hp:=(bG (nx:=nx) (first:=first) i).length_le
     omega
   exact ⟨i,by omega,by omega,hj⟩
  | succ m ih =>
   intro i hi hj
   by_cases h:i<(bfS nx first i).length
   ·exact ih (i+1) (by omega) fun j hj'=>by
     by_cases e:j=i
     ·subst e;exact h
     ·exact hj j (by omega)
   ·have h2:i<=(bfS nx first i).length:=by
     cases i with
     | zero=>omega
     | succ i =>
      have:=hj i (by omega)
      have hp:=(bG (nx:=nx) (first:=first) i).length_le
      omega
    exact ⟨i,by omega,by omega,hj⟩
 exact key B 0 (by omega) (by omega)
theorem TS {N M:Nat} (h:bfE nx first N) (k:bfE nx first M):N=M:=by
 rcases Nat.lt_trichotomy N M with e | e | e
 ·have:=k.2 N e;have:=h.1;omega
 ·exact e
 ·have:=h.2 M e;have:=k.1;omega
end
end D
namespace D
open Go.RowKit
section
variable {α:Type} [Inhabited α]
def smk (mk:α->Nat):List α->Nat
 | [] =>0
 | x::xs=>mk x+smk mk xs
def mkd (mk:α->Nat) (m:α->Nat->α):List α->Nat->List α
 | [],_=>[]
 | x::xs,k=>m x k::mkd mk m xs (k+mk x)
theorem Fk (mk:α->Nat): ∀(xs:List α) (x:α),smk mk (xs++ [x])=smk mk xs+mk x
 | [],x=>by simp[smk]
 | y::xs,x=>by simp[smk,Fk mk xs x,Nat.add_assoc]
theorem Fl (mk:α->Nat) (m:α->Nat->α): ∀(xs:List α) (x:α) (k:Nat),mkd mk m (xs++ [x]) k=mkd mk m xs k++ [m x (k+smk mk xs)]
 | [],x,k=>by simp[mkd,smk]
 | y::xs,x,k=>by simp[mkd,smk,Fl mk m xs x,Nat.add_assoc]
theorem lU (mk:α->Nat) (m:α->Nat->α): ∀(xs:List α) (k:Nat),(mkd mk m xs k).length=xs.length
 | [],_=>rfl
 | x::xs,k=>by simp[mkd,lU mk m xs]
theorem Fm (mk:α->Nat) (m:α->Nat->α): ∀(xs:List α) (k i:Nat),(mkd mk m xs k).take i=mkd mk m (xs.take i) k
 | [],_,_=>by simp[mkd]
 | x::xs,k,0=>by simp[mkd]
 | x::xs,k,i+1=>by simp[mkd,Fm mk m xs]
theorem TU {xs:List α} {k:Nat} (h:k<xs.length):xs.take (k+1)=xs.take k++ [nth xs (k:Int)]:=by
 rw[List.take_succ_eq_append_getElem h,cf h]
theorem ZX (mk:α->Nat) (m:α->Nat->α) (xs:List α) (k:Nat) {i:Nat} (h:i<xs.length):nth (mkd mk m xs k) (i:Int)=m (nth xs (i:Int)) (k+smk mk (xs.take i)):=by
 have h':i<(mkd mk m xs k).length:=by rw[lU];exact h
 have e:=TU h'
 rw[Fm,Fm,TU h,Fl] at e
 have:=List.append_cancel_left e
 simpa using this.symm
theorem Fo (mk:α->Nat) {xs:List α} {i:Nat} (h:i<xs.length):smk mk (xs.take (i+1))=smk mk (xs.take i)+mk (nth xs (i:Int)):=by rw[TU h,Fk]
theorem Qm (mk:α->Nat): ∀(xs:List α) (i:Nat),smk mk (xs.take i)<=smk mk xs
 | [],_=>by simp
 | x::xs,0=>by simp[smk]
 | x::xs,i+1=>by simp[smk];exact Qm mk xs i
theorem iM (mk:α->Nat) {B:Nat} : ∀(xs:List α),(∀x∈xs,mk x<=B)->smk mk xs<=xs.length*B
 | [],_=>by simp[smk]
 | x::xs,h=>by
  have h1:=iM mk xs fun y hy=>h y (by simp[hy])
  have h2:=h x (by simp)
  simp only[smk,aK,Nat.add_mul,Nat.one_mul];omega
theorem X1 {xs ys:List α} {i:Nat} (hi:i<xs.length) (hl:ys.length=i) (x:α):(ys++xs.drop i).set i x=ys++ [x] ++xs.drop (i+1):=by
 rw[List.set_append_right _ _ (by omega),hl,Nat.sub_self,List.drop_eq_getElem_cons hi,List.set_cons_zero,aA];rfl
theorem CU {R:Type} {f:List α×Int×Int->Option (Out R (List α×Int×Int))} (xs:List α) (mk:α->Nat) (m:α->Nat->α) (hN:xs.length<=9223372036854775807) {k:Nat} (hk:k+smk mk xs<=4611686018427387904)
  (hstep: ∀ys (i k:Nat),i<xs.length->ys.length=xs.length->nth ys (i:Int)=nth xs (i:Int)->k+mk (nth xs (i:Int))<=4611686018427387904->f (ys,(k:Int),(i:Int))=some (.nxt (ys.set i (m (nth xs (i:Int)) k),((k+mk (nth xs (i:Int)):Nat):Int),((i+1:Nat):Int))))
  (hend: ∀ys (k:Nat),ys.length=xs.length->f (ys,(k:Int),(xs.length:Int))=some (.brk (ys,(k:Int),(xs.length:Int)))) :
  ak f aP (xs,(k:Int),0)=some (.brk (mkd mk m xs k,((k+smk mk xs:Nat):Int),(xs.length:Int))):=by
 have hlen: ∀i,i<=xs.length->(mkd mk m (xs.take i) k++xs.drop i).length=xs.length:=fun i hi=>by
  rw[aC,lU,aI,bJ];omega
 have:=aO (f:=f) (fun i=>(mkd mk m (xs.take i) k++xs.drop i,((k+smk mk (xs.take i):Nat):Int),(i:Int))) xs.length (fun i hi=>by
  have hl:(mkd mk m (xs.take i) k).length=i:=by rw[lU,aI];omega
  have hle:=Qm mk xs (i+1)
  rw[Fo mk hi] at hle
  rw[hstep _ i (k+smk mk (xs.take i)) hi (hlen i (by omega)) ?_ (by omega),X1 hi hl,TU hi,Fl,Fk,Nat.add_assoc]
  have h':i<(mkd mk m (xs.take i) k++xs.drop i).length:=by rw[hlen i (by omega)];exact hi
  rw[cf h',cf hi,List.getElem_append_right (by omega)]
  simp[hl]) (by
  have:=hend (mkd mk m (xs.take xs.length) k++xs.drop xs.length) (k+smk mk (xs.take xs.length)) (hlen _ (aF _))
  exact this) (mV hN)
 simpa [mkd,smk] using this
theorem abO {f:Int×Int->Option Dq } (xs:List α) (mk:α->Nat) (m:α->Nat->α) (hN:xs.length<=9223372036854775807) {k:Nat} (hk:k+smk mk xs<=4611686018427387904)
  (hstep: ∀(i k':Nat),i<xs.length->nth (mkd mk m xs k) (i:Int)=m (nth xs (i:Int)) k'->k'+mk (nth xs (i:Int))<=4611686018427387904->f ((k':Int),(i:Int))=some (.nxt (((k'+mk (nth xs (i:Int)):Nat):Int),((i+1:Nat):Int))))
  (hend: ∀(k':Nat),f ((k':Int),(xs.length:Int))=some (.brk ((k':Int),(xs.length:Int)))) :
  ak f aP ((k:Int),0)=some (.brk (((k+smk mk xs:Nat):Int),(xs.length:Int))):=by
 have:=aO (f:=f) (fun i=>(((k+smk mk (xs.take i):Nat):Int),(i:Int))) xs.length (fun i hi=>by
  have hle:=Qm mk xs (i+1)
  rw[Fo mk hi] at hle
  rw[hstep i (k+smk mk (xs.take i)) hi (ZX mk m xs k hi) (by omega),Fo mk hi,Nat.add_assoc]) (hend _) (mV hN)
 simpa [smk] using this
end
end D
namespace D
open Go.RowKit
theorem jC {α:Type} {xs:List α} {i:Nat} {x:α} (h:i<xs.length):aG (xs.set i x) (i:Int)=some x:=by
 rw[az (by rw[List.length_set];exact h)];simp
theorem acP {n:Nat} :decide ((n:Int)<0)=false:=by simp only[decide_eq_false_iff_not];omega
def ji (x:Int×Int):Nat:=1+1
def yc (x:Int×Int) (k:Nat):Int×Int:=(((k:Nat):Int),((k+1:Nat):Int))
theorem TV (xs:List (Int×Int)) (hx:Data.sm xs):smk ji xs<=1048576*2:=by
 obtain ⟨h1,h2⟩:=aE hx
 have b:=iM ji (B:=2) xs (fun x hx=>by
  simp[ji])
 exact Nat.le_trans b (Nat.mul_le_mul_right _ h1)
theorem TW (xs:List (Int×Int)) (hx:Data.sm xs) {k:Nat} (hk:k+smk ji xs<=4611686018427387904):k7 xs (k:Int)=some (((k+smk ji xs:Nat):Int),mkd ji yc xs k):=by
 obtain ⟨hN,hs⟩:=aE hx
 unfold k7
 rw[ah (CU (f:=jS) xs ji yc (by omega) hk (fun ys i k hi hl he hk=>by
  have hz0:=hs _ (bq (xs:=xs) (i:=(i:Int)) (by omega) (by omega))
  unfold jS
  have hi':i<ys.length:=by omega
  generalize hz:nth xs (i:Int)=z at *
  have hk':k+(1+1)<=4611686018427387904:=hk
  simp only
  rw[if_pos (by simp;omega),aq (by omega) (by omega),he]
  simp only[aa,Int.toNat_natCast,jC hi',List.set_set,ae (show i<9223372036854775807 by omega),ae (show k<9223372036854775807 by omega),ae (show k+1<9223372036854775807 by omega)]
  have e:k+ji z=k+1+1:=by unfold ji;omega
  rw[e];rfl) (fun ys k hl=>by
  unfold jS
  simp only
  rw[if_neg (by simp;omega)]))]
theorem TX (xs:List (Int×Int)) (hx:Data.sm xs) {k:Nat} (hk:k+smk ji xs<=4611686018427387904):jg (mkd ji yc xs k) (k:Int)=some ((k+smk ji xs:Nat):Int):=by
 obtain ⟨hN,hs⟩:=aE hx
 unfold jg
 rw[ah (abO (f:=jT _) xs ji yc (by omega) hk (fun i k' hi he hk=>by
  have hz0:=hs _ (bq (xs:=xs) (i:=(i:Int)) (by omega) (by omega))
  unfold jT
  generalize hz:nth xs (i:Int)=z at *
  have hk':k'+(1+1)<=4611686018427387904:=hk
  simp only
  rw[if_pos (by simp[lU];omega),aq (by omega) (by rw[lU];omega),he]
  simp only[yc,aa,bne_self_eq_false,Bool.false_eq_true,if_false,acP,ae (show i<9223372036854775807 by omega),ae (show k'<9223372036854775807 by omega),ae (show k'+1<9223372036854775807 by omega)]
  have e:k'+ji z=k'+1+1:=by unfold ji;omega
  rw[e]) (fun k'=>by
  unfold jT
  simp only
  rw[if_neg (by simp[lU])]))]
def ll (x:Int):Nat:=1
def Lp (x:Int) (k:Nat):Int:=((k:Nat):Int)
theorem Qn (xs:List Int) (hx:Data.sm xs):smk ll xs<=1048576*1:=by
 obtain ⟨h1,h2⟩:=aE hx
 have b:=iM ll (B:=1) xs (fun x hx=>by
  simp[ll])
 exact Nat.le_trans b (Nat.mul_le_mul_right _ h1)
theorem Qo (xs:List Int) (hx:Data.sm xs) {k:Nat} (hk:k+smk ll xs<=4611686018427387904):mL xs (k:Int)=some (((k+smk ll xs:Nat):Int),mkd ll Lp xs k):=by
 obtain ⟨hN,hs⟩:=aE hx
 unfold mL
 rw[ah (CU (f:=kY) xs ll Lp (by omega) hk (fun ys i k hi hl he hk=>by
  have hz0:=hs _ (bq (xs:=xs) (i:=(i:Int)) (by omega) (by omega))
  unfold kY
  have hi':i<ys.length:=by omega
  generalize hz:nth xs (i:Int)=z at *
  have hk':k+(1)<=4611686018427387904:=hk
  simp only
  rw[if_pos (by simp;omega),aq (by omega) (by omega),he]
  simp only[aa,Int.toNat_natCast,jC hi',List.set_set,ae (show i<9223372036854775807 by omega),ae (show k<9223372036854775807 by omega)]
  have e:k+ll z=k+1:=by unfold ll;omega
  rw[e];rfl) (fun ys k hl=>by
  unfold kY
  simp only
  rw[if_neg (by simp;omega)]))]
def lV (x:Int×Int×Int×Int):Nat:=1+1+1+1
def JI (x:Int×Int×Int×Int) (k:Nat):Int×Int×Int×Int:=(((k:Nat):Int),((k+1:Nat):Int),((k+1+1:Nat):Int),((k+1+1+1:Nat):Int))
theorem TY (xs:List Yq1) (hx:Data.sm xs):smk lV xs<=1048576*4:=by
 obtain ⟨h1,h2⟩:=aE hx
 have b:=iM lV (B:=4) xs (fun x hx=>by
  simp[lV])
 exact Nat.le_trans b (Nat.mul_le_mul_right _ h1)
theorem T0 (xs:List Yq1) (hx:Data.sm xs) {k:Nat} (hk:k+smk lV xs<=4611686018427387904):nG xs (k:Int)=some (((k+smk lV xs:Nat):Int),mkd lV JI xs k):=by
 obtain ⟨hN,hs⟩:=aE hx
 unfold nG
 rw[ah (CU (f:=jO) xs lV JI (by omega) hk (fun ys i k hi hl he hk=>by
  have hz0:=hs _ (bq (xs:=xs) (i:=(i:Int)) (by omega) (by omega))
  unfold jO
  have hi':i<ys.length:=by omega
  generalize hz:nth xs (i:Int)=z at *
  have hk':k+(1+1+1+1)<=4611686018427387904:=hk
  simp only
  rw[if_pos (by simp;omega),aq (by omega) (by omega),he]
  simp only[aa,Int.toNat_natCast,jC hi',List.set_set,ae (show i<9223372036854775807 by omega),ae (show k<9223372036854775807 by omega),ae (show k+1<9223372036854775807 by omega),ae (show k+1+1<9223372036854775807 by omega),ae (show k+1+1+1<9223372036854775807 by omega)]
  have e:k+lV z=k+1+1+1+1:=by unfold lV;omega
  rw[e];rfl) (fun ys k hl=>by
  unfold jO
  simp only
  rw[if_neg (by simp;omega)]))]
def jY (x:(List Int)×(List Yq1)):Nat:=smk ll (x.1)+smk lV (x.2)
def Fp (x:(List Int)×(List Yq1)) (k:Nat):(List Int)×(List Yq1):=(mkd ll Lp (x.1) (k),mkd lV JI (x.2) (k+smk ll (x.1)))
theorem Qp (xs:List Li) (hx:Data.sm xs):smk jY xs<=1048576*5242880:=by
 obtain ⟨h1,h2⟩:=aE hx
 have b:=iM jY (B:=5242880) xs (fun x hx=>by
  have hs:=h2 x hx
  have q0:=Qn (x.1) hs.1
  have q1:=TY (x.2) hs.2
  unfold jY;omega)
 exact Nat.le_trans b (Nat.mul_le_mul_right _ h1)
theorem Qq (xs:List Li) (hx:Data.sm xs) {k:Nat} (hk:k+smk jY xs<=4611686018427387904):mu xs (k:Int)=some (((k+smk jY xs:Nat):Int),mkd jY Fp xs k):=by
 obtain ⟨hN,hs⟩:=aE hx
 unfold mu
 rw[ah (CU (f:=je) xs jY Fp (by omega) hk (fun ys i k hi hl he hk=>by
  have hz0:=hs _ (bq (xs:=xs) (i:=(i:Int)) (by omega) (by omega))
  unfold je
  have hi':i<ys.length:=by omega
  generalize hz:nth xs (i:Int)=z at *
  have hk':k+(smk ll (z.1)+smk lV (z.2))<=4611686018427387904:=hk
  have m0:=Qo (z.1) hz0.1 (k:=k) (by omega)
  have m1:=T0 (z.2) hz0.2 (k:=k+smk ll (z.1)) (by omega)
  simp only
  rw[if_pos (by simp;omega),aq (by omega) (by omega),he]
  simp only[aa,Int.toNat_natCast,jC hi',List.set_set,ae (show i<9223372036854775807 by omega),m0,m1]
  have e:k+jY z=k+smk ll (z.1)+smk lV (z.2):=by unfold jY;omega
  rw[e];rfl) (fun ys k hl=>by
  unfold je
  simp only
  rw[if_neg (by simp;omega)]))]
def j8 (x:Bool):Nat:=1
def JJ (x:Bool) (k:Nat):Bool:=((Int.tmod ((k:Nat):Int) 3)==0)
theorem T1 (xs:List Bool) (hx:Data.sm xs):smk j8 xs<=1048576*1:=by
 obtain ⟨h1,h2⟩:=aE hx
 have b:=iM j8 (B:=1) xs (fun x hx=>by
  simp[j8])
 exact Nat.le_trans b (Nat.mul_le_mul_right _ h1)
theorem T2 (xs:List Bool) (hx:Data.sm xs) {k:Nat} (hk:k+smk j8 xs<=4611686018427387904):nH xs (k:Int)=some (((k+smk j8 xs:Nat):Int),mkd j8 JJ xs k):=by
 obtain ⟨hN,hs⟩:=aE hx
 unfold nH
 rw[ah (CU (f:=jP) xs j8 JJ (by omega) hk (fun ys i k hi hl he hk=>by
  have hz0:=hs _ (bq (xs:=xs) (i:=(i:Int)) (by omega) (by omega))
  unfold jP
  have hi':i<ys.length:=by omega
  generalize hz:nth xs (i:Int)=z at *
  have hk':k+(1)<=4611686018427387904:=hk
  simp only
  rw[if_pos (by simp;omega),aq (by omega) (by omega),he]
  simp only[aa,Int.toNat_natCast,jC hi',List.set_set,ae (show i<9223372036854775807 by omega),ae (show k<9223372036854775807 by omega)]
  have e:k+j8 z=k+1:=by unfold j8;omega
  rw[e];rfl) (fun ys k hl=>by
  unfold jP
  simp only
  rw[if_neg (by simp;omega)]))]
def lW (x:List Int):Nat:=smk ll (x)
def JK (x:List Int) (k:Nat):List Int:=mkd ll Lp x k
theorem T3 (xs:List (List Int)) (hx:Data.sm xs):smk lW xs<=1048576*1048576:=by
 obtain ⟨h1,h2⟩:=aE hx
 have b:=iM lW (B:=1048576) xs (fun x hx=>by
  have hs:=h2 x hx
  have q0:=Qn (x) hs
  unfold lW;omega)
 exact Nat.le_trans b (Nat.mul_le_mul_right _ h1)
theorem T4 (xs:List (List Int)) (hx:Data.sm xs) {k:Nat} (hk:k+smk lW xs<=4611686018427387904):nI xs (k:Int)=some (((k+smk lW xs:Nat):Int),mkd lW JK xs k):=by
 obtain ⟨hN,hs⟩:=aE hx
 unfold nI
 rw[ah (CU (f:=jQ) xs lW JK (by omega) hk (fun ys i k hi hl he hk=>by
  have hz0:=hs _ (bq (xs:=xs) (i:=(i:Int)) (by omega) (by omega))
  unfold jQ
  have hi':i<ys.length:=by omega
  generalize hz:nth xs (i:Int)=z at *
  have hk':k+(smk ll (z))<=4611686018427387904:=hk
  have m0:=Qo (z) hz0 (k:=k) (by omega)
  simp only
  rw[if_pos (by simp;omega),aq (by omega) (by omega),he]
  simp only[aa,Int.toNat_natCast,jC hi',List.set_set,ae (show i<9223372036854775807 by omega),m0]
  have e:k+lW z=k+smk ll (z):=by unfold lW;omega
  rw[e];rfl) (fun ys k hl=>by
  unfold jQ
  simp only
  rw[if_neg (by simp;omega)]))]
def cj (x:Int×(List Bool)×(List (List Int))):Nat:=1+smk j8 (x.2.1)+smk lW (x.2.2)
def ta (x:Int×(List Bool)×(List (List Int))) (k:Nat):Int×(List Bool)×(List (List Int)):=(((k:Nat):Int),mkd j8 JJ (x.2.1) (k+1),mkd lW JK (x.2.2) (k+1+smk j8 (x.2.1)))
theorem Fq (xs:List Yq2) (hx:Data.sm xs):smk cj xs<=1048576*1099512676353:=by
 obtain ⟨h1,h2⟩:=aE hx
 have b:=iM cj (B:=1099512676353) xs (fun x hx=>by
  have hs:=h2 x hx
  have q0:=T1 (x.2.1) hs.2.1
  have q1:=T3 (x.2.2) hs.2.2
  unfold cj;omega)
 exact Nat.le_trans b (Nat.mul_le_mul_right _ h1)
theorem Fs (xs:List Yq2) (hx:Data.sm xs) {k:Nat} (hk:k+smk cj xs<=4611686018427387904):gQ xs (k:Int)=some (((k+smk cj xs:Nat):Int),mkd cj ta xs k):=by
 obtain ⟨hN,hs⟩:=aE hx
 unfold gQ
 rw[ah (CU (f:=eW) xs cj ta (by omega) hk (fun ys i k hi hl he hk=>by
  have hz0:=hs _ (bq (xs:=xs) (i:=(i:Int)) (by omega) (by omega))
  unfold eW
  have hi':i<ys.length:=by omega
  generalize hz:nth xs (i:Int)=z at *
  have hk':k+(1+smk j8 (z.2.1)+smk lW (z.2.2))<=4611686018427387904:=hk
  have m0:=T2 (z.2.1) hz0.2.1 (k:=k+1) (by omega)
  have m1:=T4 (z.2.2) hz0.2.2 (k:=k+1+smk j8 (z.2.1)) (by omega)
  simp only
  rw[if_pos (by simp;omega),aq (by omega) (by omega),he]
  simp only[aa,Int.toNat_natCast,jC hi',List.set_set,ae (show i<9223372036854775807 by omega),ae (show k<9223372036854775807 by omega),m0,m1]
  have e:k+cj z=k+1+smk j8 (z.2.1)+smk lW (z.2.2):=by unfold cj;omega
  rw[e];rfl) (fun ys k hl=>by
  unfold eW
  simp only
  rw[if_neg (by simp;omega)]))]
def gu (x:Int×Int×Int×Int):Nat:=1+1+1+1
def Ft (x:Int×Int×Int×Int) (k:Nat):Int×Int×Int×Int:=(((k:Nat):Int),((k+1:Nat):Int),((k+1+1:Nat):Int),((k+1+1+1:Nat):Int))
theorem Qr (xs:List Yq1) (hx:Data.sm xs):smk gu xs<=1048576*4:=by
 obtain ⟨h1,h2⟩:=aE hx
 have b:=iM gu (B:=4) xs (fun x hx=>by
  simp[gu])
 exact Nat.le_trans b (Nat.mul_le_mul_right _ h1)
theorem Qs (xs:List Yq1) (hx:Data.sm xs) {k:Nat} (hk:k+smk gu xs<=4611686018427387904):mw xs (k:Int)=some (((k+smk gu xs:Nat):Int),mkd gu Ft xs k):=by
 obtain ⟨hN,hs⟩:=aE hx
 unfold mw
 rw[ah (CU (f:=jf) xs gu Ft (by omega) hk (fun ys i k hi hl he hk=>by
  have hz0:=hs _ (bq (xs:=xs) (i:=(i:Int)) (by omega) (by omega))
  unfold jf
  have hi':i<ys.length:=by omega
  generalize hz:nth xs (i:Int)=z at *
  have hk':k+(1+1+1+1)<=4611686018427387904:=hk
  simp only
  rw[if_pos (by simp;omega),aq (by omega) (by omega),he]
  simp only[aa,Int.toNat_natCast,jC hi',List.set_set,ae (show i<9223372036854775807 by omega),ae (show k<9223372036854775807 by omega),ae (show k+1<9223372036854775807 by omega),ae (show k+1+1<9223372036854775807 by omega),ae (show k+1+1+1<9223372036854775807 by omega)]
  have e:k+gu z=k+1+1+1+1:=by unfold gu;omega
  rw[e];rfl) (fun ys k hl=>by
  unfold jf
  simp only
  rw[if_neg (by simp;omega)]))]
def cA (x:Int×((List Yq1))×Int):Nat:=1+smk gu (x.2.1)+1
def q7 (x:Int×((List Yq1))×Int) (k:Nat):Int×((List Yq1))×Int:=(((k:Nat):Int),mkd gu Ft (x.2.1) (k+1),((k+1+smk gu (x.2.1):Nat):Int))
theorem CV (xs:List Yq3) (hx:Data.sm xs):smk cA xs<=1048576*4194306:=by
 obtain ⟨h1,h2⟩:=aE hx
 have b:=iM cA (B:=4194306) xs (fun x hx=>by
  have hs:=h2 x hx
  have q0:=Qr (x.2.1) hs.2.1
  unfold cA;omega)
 exact Nat.le_trans b (Nat.mul_le_mul_right _ h1)
theorem CW (xs:List Yq3) (hx:Data.sm xs) {k:Nat} (hk:k+smk cA xs<=4611686018427387904):gm xs (k:Int)=some (((k+smk cA xs:Nat):Int),mkd cA q7 xs k):=by
 obtain ⟨hN,hs⟩:=aE hx
 unfold gm
 rw[ah (CU (f:=eA) xs cA q7 (by omega) hk (fun ys i k hi hl he hk=>by
  have hz0:=hs _ (bq (xs:=xs) (i:=(i:Int)) (by omega) (by omega))
  unfold eA
  have hi':i<ys.length:=by omega
  generalize hz:nth xs (i:Int)=z at *
  have hk':k+(1+smk gu (z.2.1)+1)<=4611686018427387904:=hk
  have m0:=Qs (z.2.1) hz0.2.1 (k:=k+1) (by omega)
  simp only
  rw[if_pos (by simp;omega),aq (by omega) (by omega),he]
  simp only[aa,Int.toNat_natCast,jC hi',List.set_set,ae (show i<9223372036854775807 by omega),ae (show k<9223372036854775807 by omega),ae (show k+1+smk gu (z.2.1)<9223372036854775807 by omega),m0]
  have e:k+cA z=k+1+smk gu (z.2.1)+1:=by unfold cA;omega
  rw[e];rfl) (fun ys k hl=>by
  unfold eA
  simp only
  rw[if_neg (by simp;omega)]))]
def cB (x:Int×Int×Int):Nat:=1+1+1
def q8 (x:Int×Int×Int) (k:Nat):Int×Int×Int:=(((k:Nat):Int),((k+1:Nat):Int),((k+1+1:Nat):Int))
theorem CX (xs:List (Int×Int×Int)) (hx:Data.sm xs):smk cB xs<=1048576*3:=by
 obtain ⟨h1,h2⟩:=aE hx
 have b:=iM cB (B:=3) xs (fun x hx=>by
  simp[cB])
 exact Nat.le_trans b (Nat.mul_le_mul_right _ h1)
theorem CY (xs:List (Int×Int×Int)) (hx:Data.sm xs) {k:Nat} (hk:k+smk cB xs<=4611686018427387904):gp xs (k:Int)=some (((k+smk cB xs:Nat):Int),mkd cB q8 xs k):=by
 obtain ⟨hN,hs⟩:=aE hx
 unfold gp
 rw[ah (CU (f:=eB) xs cB q8 (by omega) hk (fun ys i k hi hl he hk=>by
  have hz0:=hs _ (bq (xs:=xs) (i:=(i:Int)) (by omega) (by omega))
  unfold eB
  have hi':i<ys.length:=by omega
  generalize hz:nth xs (i:Int)=z at *
  have hk':k+(1+1+1)<=4611686018427387904:=hk
  simp only
  rw[if_pos (by simp;omega),aq (by omega) (by omega),he]
  simp only[aa,Int.toNat_natCast,jC hi',List.set_set,ae (show i<9223372036854775807 by omega),ae (show k<9223372036854775807 by omega),ae (show k+1<9223372036854775807 by omega),ae (show k+1+1<9223372036854775807 by omega)]
  have e:k+cB z=k+1+1+1:=by unfold cB;omega
  rw[e];rfl) (fun ys k hl=>by
  unfold eB
  simp only
  rw[if_neg (by simp;omega)]))]
def fO (x:Int×Yq4):Nat:=smk jY (x.2)
def HQ (x:Int×Yq4) (k:Nat):Int×Yq4:=(x.1,mkd jY Fp (x.2) (k))
theorem Nb (x:Int×Yq4) (hx:Data.sm x):fO x<=5497558138880:=by
 have q0:=Qp (x.2) hx.2
 unfold fO;omega
theorem Nc (x:Int×Yq4) (hx:Data.sm x) {k:Nat} (hk:k+fO x<=4611686018427387904):kZ x (k:Int)=some (((k+fO x:Nat):Int),HQ x k):=by
 unfold fO at hk
 have m0:=Qq (x.2) hx.2 (k:=k) (by omega)
 unfold kZ
 simp only[eY,aa,m0]
 have e:k+fO x=k+smk jY (x.2):=by unfold fO;omega
 rw[e];rfl
def fP (x:(List Yq2)×(List Yq3)):Nat:=smk cj (x.1)+smk cA (x.2)
def DO (x:(List Yq2)×(List Yq3)) (k:Nat):(List Yq2)×(List Yq3):=(mkd cj ta (x.1) (k),mkd cA q7 (x.2) (k+smk cj (x.1)))
theorem JL (x:(List Yq2)×(List Yq3)) (hx:Data.sm x):fP x<=1152927002168131584:=by
 have q0:=Fq (x.1) hx.1
 have q1:=CV (x.2) hx.2
 unfold fP;omega
theorem JM (x:(List Yq2)×(List Yq3)) (hx:Data.sm x) {k:Nat} (hk:k+fP x<=4611686018427387904):jR x (k:Int)=some (((k+fP x:Nat):Int),DO x k):=by
 unfold fP at hk
 have m0:=Fs (x.1) hx.1 (k:=k) (by omega)
 have m1:=CW (x.2) hx.2 (k:=k+smk cj (x.1)) (by omega)
 unfold jR
 simp only[eY,aa,m0,m1]
 have e:k+fP x=k+smk cj (x.1)+smk cA (x.2):=by unfold fP;omega
 rw[e];rfl
def q9 (x:(Int×Yq4)×Yq6×Yq7×ByteArray):Nat:=fO (x.1)+fP (x.2.1)+smk cB (x.2.2.1)
def T5 (x:(Int×Yq4)×Yq6×Yq7×ByteArray) (k:Nat):(Int×Yq4)×Yq6×Yq7×ByteArray:=(HQ (x.1) (k),DO (x.2.1) (k+fO (x.1)),mkd cB q8 (x.2.2.1) (k+fO (x.1)+fP (x.2.1)),x.2.2.2)
theorem Qt (x:(Int×Yq4)×Yq6×Yq7×ByteArray) (hx:Data.sm x):q9 x<=1152932499729416192:=by
 have q0:=Nb (x.1) hx.1
 have q1:=JL (x.2.1) hx.2.1
 have q2:=CX (x.2.2.1) hx.2.2.1
 unfold q9;omega
theorem Qu (x:(Int×Yq4)×Yq6×Yq7×ByteArray) (hx:Data.sm x) {k:Nat} (hk:k+q9 x<=4611686018427387904):jz x (k:Int)=some (((k+q9 x:Nat):Int),T5 x k):=by
 unfold q9 at hk
 have m0:=Nc (x.1) hx.1 (k:=k) (by omega)
 have m1:=JM (x.2.1) hx.2.1 (k:=k+fO (x.1)) (by omega)
 have m2:=CY (x.2.2.1) hx.2.2.1 (k:=k+fO (x.1)+fP (x.2.1)) (by omega)
 unfold jz
 simp only[eY,aa,m0,m1,m2]
 have e:k+q9 x=k+fO (x.1)+fP (x.2.1)+smk cB (x.2.2.1):=by unfold q9;omega
 rw[e];rfl
end D
namespace D
abbrev Pr:=Int×Int
def ltP (a b:Pr):Prop:=a.1<b.1\/a.1=b.1/\a.2<b.2
instance (a b:Pr):Decidable (ltP a b):=inferInstanceAs (Decidable (_\/_))
end D
namespace D
open Go.RowKit
section
variable {l m:List Pr} {p:Pr}
end
end D
namespace D
open Go.RowKit
end D
namespace D
open Go.RowKit
end D
namespace D
open Go.RowKit
def mkB (l:List UInt8):ByteArray:=⟨l.toArray⟩
theorem X2 (a b:List UInt8):mkB a++mkB b=mkB (a++b):=ByteArray.ext (by simp[mkB])
theorem bB (a:List UInt8):(mkB a).size=a.length:=by simp[mkB,ByteArray.size]
theorem e6 (a:List UInt8):(mkB a).data.toList=a:=by simp[mkB]
theorem Fu (a b:List UInt8) (h:a.length+b.length<=9223372036854775807):mU (mkB a) (mkB b)=some (mkB (a++b)):=by
 unfold mU chk
 rw[bB,bB,if_pos h,aa,X2]
theorem ade: ∀d:Fin 10,IntKind.u8.wrap (i64.wrap (48+(d.val:Int)))=48+(d.val:Int):=by decide
theorem adf {d:Nat} (h:d<10):yB [IntKind.u8.wrap (i64.wrap (48+(d:Int)))] =mkB [UInt8.ofNat (48+d)]:=by
 rw[ade ⟨d,h⟩]
 show ByteArray.empty.push (UInt8.ofNat (48+(d:Int)).toNat)=_
 rw[show (48+(d:Int)).toNat=48+d by omega];rfl
theorem adg (m:Int):(if decide ((Int.tmod m 10)<0) then (some (i64.wrap (-(Int.tmod m 10)))) else (some (Int.tmod m 10)):Option Int)=some ((m.natAbs % 10:Nat):Int):=by
 by_cases h:m<0
 ·obtain ⟨k,rfl⟩: ∃k:Nat,m= -(k:Int):=⟨m.natAbs,by omega⟩
  have e:Int.tmod (-(k:Int)) 10= -((k % 10:Nat):Int):=by rw[Int.neg_tmod];rfl
  rw[e,Int.natAbs_neg,Int.natAbs_natCast]
  by_cases h0:k % 10=0
  ·rw[h0];rfl
  ·rw[if_pos (decide_eq_true (by omega)),Int.neg_neg,b7 (by omega) (by omega)]
 ·obtain ⟨k,rfl⟩: ∃k:Nat,m=(k:Int):=⟨m.natAbs,by omega⟩
  have e:Int.tmod (k:Int) 10=((k % 10:Nat):Int):=rfl
  rw[e,if_neg (by simp;omega),Int.natAbs_natCast]
theorem acQ {m:Int} (h:I64 m):CZ m 10=m.tdiv 10/\(m.tdiv 10).natAbs=m.natAbs / 10:=by
 have k:(m.tdiv 10).natAbs=m.natAbs / 10:=Int.natAbs_tdiv m 10
 unfold I64 at h
 refine ⟨?_,k⟩
 unfold CZ
 exact b7 (by omega) (by omega)
theorem X3 {m:Int} {out:List UInt8} (h0:m≠0) (h:I64 m) (hl:out.length<=1000):dF (m,mkB out)=some (.nxt (m.tdiv 10,mkB (UInt8.ofNat (48+m.natAbs % 10)::out))):=by
 unfold dF
 simp only[]
 rw[if_pos (by simpa using h0),adg,aa,adf (Nat.mod_lt _ (by omega)),Fu _ _ (by simp;omega),aa,(acQ h).1];rfl
theorem VD (u:Nat):1<=Lib.nDigits u:=by
 by_cases h:u<10
 ·rw[Lib.nDigits_small h];omega
 ·rw[Lib.nDigits_big h];omega
theorem Qv: ∀(k:Nat) (m:Int) (out:List UInt8),m≠0->I64 m->Lib.nDigits m.natAbs<=k->out.length+Lib.nDigits m.natAbs<=100->ak dF (k+1) (m,mkB out)=some (.brk (0,mkB (Lib.decDigits m.natAbs++out)))
 | 0,m,out,_,_,h,_=>by have:=VD m.natAbs;omega
 | k+1,m,out,h0,hm,h,hl=>by
  rw[ak,X3 h0 hm (by omega)]
  show ak dF (k+1) (m.tdiv 10,_)=_
  have hq:=(acQ hm).2
  by_cases h1:m.natAbs<10
  ·have hz:m.tdiv 10=0:=by
    have:(m.tdiv 10).natAbs=0:=by rw[hq];omega
    omega
   rw[hz,ak]
   have:dF (0,mkB (UInt8.ofNat (48+m.natAbs % 10)::out))=some (.brk (0,mkB (UInt8.ofNat (48+m.natAbs % 10)::out))):=rfl
   rw[this,Lib.decDigits_one h1,Nat.mod_eq_of_lt h1];rfl
  ·have hz:m.tdiv 10≠0:=by
    intro e
    rw[e] at hq
    have:m.natAbs / 10=0:=by simpa using hq.symm
    omega
   have hn:=Lib.nDigits_big h1
   have hi:I64 (m.tdiv 10):=by unfold I64 at hm⊢;omega
   rw[Qv k _ _ hz hi (by rw[hq];omega) (by rw[hq,aK];omega),hq]
   have:Lib.decDigits m.natAbs=Lib.decDigits (m.natAbs / 10)++ [UInt8.ofNat (48+m.natAbs % 10)]:=by rw[Lib.decDigits,dif_neg h1]
   rw[this,aA];rfl
theorem uN {n:Int} (h:I64 n):(Lib.itoa n).length<=21:=Lib.itoa_length_le n h.1 h.2
theorem abP {n:Int} (h:I64 n):Lib.nDigits n.natAbs<=21:=by
 have:=uN h
 unfold Lib.itoa at this
 split at this
 ·rw[aK,Lib.decDigits_length] at this;omega
 ·rw[Lib.decDigits_length] at this
  rw[show n.natAbs=n.toNat by omega];exact this
theorem tX {n:Int} (h:I64 n):bW n=some (mkB (Lib.itoa n)):=by
 unfold bW
 by_cases h0:n=0
 ·subst h0
  rw[if_pos (by rfl:((0:Int)==0)=true)]
  have:Lib.itoa 0= [48]:=by unfold Lib.itoa;rw[if_neg (by decide)];exact Lib.decDigits_one (by decide)
  rw[this];rfl
 rw[if_neg (by simpa using h0)]
 have hn:=abP h
 have hf:=fV 100 (by omega)
 obtain ⟨k,hk⟩: ∃k,aP=k+1:=⟨aP - 1,by omega⟩
 have hL:ak dF aP (n,(⟨#[]⟩:ByteArray))=some (.brk (0,mkB (Lib.decDigits n.natAbs++ []))):=by
  rw[hk];exact Qv k n [] h0 h (by omega) (by simp;omega)
 rw[ah hL,List.append_nil]
 have hd:(Lib.decDigits n.natAbs).length<=21:=by rw[Lib.decDigits_length];exact hn
 unfold Lib.itoa
 by_cases h1:n<0
 ·rw[if_pos (decide_eq_true h1),if_pos h1]
  show (mU (mkB [45]) _).bind _=_
  rw[Fu _ _ (by simp;omega)];rfl
 ·rw[if_neg (by simpa using h1),if_neg h1,show n.natAbs=n.toNat by omega]
theorem wV {n:Int} (h:I64 n):dj n=some (mkB (Lib.itoa n)):=by
 unfold dj mZ R.TC chk
 rw[if_pos (show -9223372036854775808<=n/\n<=9223372036854775807 from h)];rfl
theorem Qw (xs:List (List UInt8)) (y sep:List UInt8):Lib.join (xs++ [y]) sep=if xs= [] then y else Lib.join xs sep++sep++y:=by
 cases xs with
 | nil=>rw[if_pos rfl];exact Lib.join_one _ _
 | cons x r =>
  rw[if_neg (by simp),List.cons_append,Lib.join_cons,Lib.join_cons]
  simp[Lib.joinTail,aA]
end D
namespace D
open Go.RowKit
theorem BV: ∀(a:List UInt8) (acc:Nat) (b:List UInt8),Lib.decFrom acc (a++b)=(Lib.decFrom acc a).bind fun m=>Lib.decFrom m b
 | [],acc,b=>rfl
 | x::a,acc,b=>by
  rw[List.cons_append,Lib.decFrom,Lib.decFrom]
  cases Lib.digitVal x with
  | none=>rfl
  | some d=>exact BV a _ b
theorem Qx {d:Nat} (h:d<10):Lib.digitVal (UInt8.ofNat (48+d))=some d:=by
 have e:(UInt8.ofNat (48+d)).toNat=48+d:=by simp;omega
 unfold Lib.digitVal
 rw[e,if_pos ⟨by omega,by omega⟩]
 congr 1;omega
theorem Aa {u:Nat} (h: ¬u<10):Lib.decDigits u=Lib.decDigits (u / 10)++ [UInt8.ofNat (48+u % 10)]:=by rw[Lib.decDigits,dif_neg h]
theorem JN (u:Nat):Lib.decFrom 0 (Lib.decDigits u)=some u:=by
 induction u using Nat.strongRecOn with
 | _ u ih =>
  by_cases h:u<10
  ·rw[Lib.decDigits_one h,Lib.decFrom,Qx h]
   simp[Lib.decFrom]
  ·rw[Aa h,BV,ih (u / 10) (by omega),aa,Lib.decFrom,Qx (Nat.mod_lt _ (by omega))]
   simp only[Lib.decFrom]
   congr 1;omega
theorem ZY (u:Nat):Lib.decDigits u≠ []:=fun h=>by
 have:=Lib.decDigits_length u
 rw[h] at this
 have:=VD u
 simp at *;omega
theorem DP (u:Nat):Lib.decNat (Lib.decDigits u)=some u:=by
 unfold Lib.decNat
 rw[if_neg (by simpa using ZY u),JN]
theorem Lq (u:Nat): ∃d r,d<10/\Lib.decDigits u=UInt8.ofNat (48+d)::r:=by
 induction u using Nat.strongRecOn with
 | _ u ih =>
  by_cases h:u<10
  ·exact ⟨u,[],h,Lib.decDigits_one h⟩
  ·obtain ⟨d,r,hd,e⟩:=ih (u / 10) (by omega)
   exact ⟨d,_,hd,by rw[Aa h,e];rfl⟩
theorem JO {d:Nat} (h:d<10):(UInt8.ofNat (48+d)==45)=false/\(UInt8.ofNat (48+d)==43)=false:=by
 have: ∀d:Fin 10,(UInt8.ofNat (48+d.val)==45)=false/\(UInt8.ofNat (48+d.val)==43)=false:=by decide
 exact this ⟨d,h⟩
theorem Qy (n:Int):Lib.atoi (Lib.itoa n)=some n:=by
 unfold Lib.itoa
 by_cases h:n<0
 ·rw[if_pos h]
  show (Lib.decNat (Lib.decDigits n.natAbs)).map (fun (m:Nat)=> -(m:Int))=_
  rw[DP]
  simp;omega
 ·rw[if_neg h]
  obtain ⟨d,r,hd,e⟩:=Lq n.toNat
  have k:=DP n.toNat
  rw[e] at k⊢
  show (if (UInt8.ofNat (48+d)==45)=true then _ else if (UInt8.ofNat (48+d)==43)=true then _ else _)=_
  rw[if_neg (by rw[(JO hd).1];decide),if_neg (by rw[(JO hd).2];decide),k]
  simp;omega
def dst (p:Nat×Nat) (b:UInt8):Nat×Nat:=if 48<=b.toNat/\b.toNat<=57 then (p.1*10+(b.toNat - 48),p.2+1) else p
theorem Qz {d:Nat} (h:d<10) (p:Nat×Nat):dst p (UInt8.ofNat (48+d))=(p.1*10+d,p.2+1):=by
 have e:(UInt8.ofNat (48+d)).toNat=48+d:=by simp;omega
 unfold dst
 rw[e,if_pos ⟨by omega,by omega⟩,show 48+d - 48=d by omega]
theorem QA (u:Nat):(Lib.decDigits u).foldl dst (0,0)=(u,Lib.nDigits u):=by
 induction u using Nat.strongRecOn with
 | _ u ih =>
  by_cases h:u<10
  ·rw[Lib.decDigits_one h,List.foldl_cons,List.foldl_nil,Qz h,Lib.nDigits_small h];simp
  ·rw[Aa h,List.foldl_append,ih (u / 10) (by omega),List.foldl_cons,List.foldl_nil,Qz (Nat.mod_lt _ (by omega)),Lib.nDigits_big h]
   congr 1
   show u / 10*10+u % 10=u
   omega
theorem T6 (n:Int):(Lib.itoa n).foldl dst (0,0)=(n.natAbs,Lib.nDigits n.natAbs):=by
 unfold Lib.itoa
 split
 ·rw[List.foldl_cons,show dst (0,0) 45=(0,0) from rfl,QA]
 ·rw[QA,show n.toNat=n.natAbs by omega]
theorem VE: ∀(l:List UInt8) (p:Nat×Nat),p.1<10 ^ p.2->(l.foldl dst p).1<10 ^ (l.foldl dst p).2
 | [],p,h=>h
 | b::l,p,h=>by
  rw[List.foldl_cons]
  refine VE l _ ?_
  unfold dst
  split
  ·rename_i k
   show p.1*10+(b.toNat - 48)<10 ^ (p.2+1)
   rw[Nat.pow_succ];omega
  ·exact h
theorem VF: ∀(l:List UInt8) (p:Nat×Nat),(l.foldl dst p).2<=p.2+l.length
 | [],p=>by simp
 | b::l,p=>by
  rw[List.foldl_cons]
  have:=VF l (dst p b)
  have h:(dst p b).2<=p.2+1:=by unfold dst;split <;> simp
  rw[aK];omega
end D
namespace D
open Go.RowKit
theorem ZZ: ∀(k u:Nat),1<=k->u<10 ^ k->Lib.nDigits u<=k
 | 0,u,h,_=>by omega
 | k+1,u,_,h=>by
  by_cases h1:u<10
  ·rw[Lib.nDigits_small h1];omega
  ·rw[Lib.nDigits_big h1]
   have hk:1<=k:=by
    rcases k with _ | k
    ·omega
    ·omega
   have:=ZZ k (u / 10) hk (by omega)
   omega
theorem u8W: ∀d:Fin 10,i64.wrap (IntKind.u8.wrap (d.val:Int))=(d.val:Int):=by decide
theorem Ab {s:ByteArray} {i:Nat} (h:i<s.size):lu s (i:Int)=some (((s.data.toList[i]'(by simp_all)).toNat:Nat):Int):=by
 simp_all[lu,chk,if_pos,aa,List.getD_eq_getElem?_getD,List.getElem?_eq_getElem]
def dtk (s:ByteArray) (i:Nat):Nat×Nat:=(s.data.toList.take i).foldl dst (0,0)
theorem QB (s:ByteArray) (i:Nat):(dtk s i).1<10 ^ (dtk s i).2/\(dtk s i).2<=i:=by
 grind[VE,VF,aI,dtk]
theorem X4 (s:ByteArray):ak (ir s) aP (0,0,0)=some (.brk (((dtk s (min s.size 11)).1:Int),((dtk s (min s.size 11)).2:Int),((min s.size 11:Nat):Int))):=by
 refine aO (f:=ir s) (fun i=>(((dtk s i).1:Int),((dtk s i).2:Int),(i:Int))) (min s.size 11) (fun i hi=>?_) ?_ (fV _ (by omega))
 ·have h1:i<s.size:=by omega
  have hl:i<s.data.toList.length:=by simpa using h1
  have hd:dtk s (i+1)=dst (dtk s i) (s.data.toList[i]):=by
   unfold dtk
   rw[List.take_succ_eq_append_getElem hl,List.foldl_append];rfl
  have ⟨b1,b2⟩:=QB s i
  have b3:10 ^ (dtk s i).2<=10 ^ 10:=Nat.pow_le_pow_right (by omega) (by omega)
  unfold ir
  simp only[]
  rw[if_pos (decide_eq_true (by omega)),if_pos (decide_eq_true (by omega)),Ab h1,hd]
  generalize s.data.toList[i] =b
  generalize dtk s i=p at *
  simp only[aa]
  unfold dst
  by_cases c1:48<=b.toNat
  ·rw[if_pos (decide_eq_true (by omega))]
   by_cases c2:b.toNat<=57
   ·rw[if_pos (decide_eq_true (by omega)),if_pos ⟨c1,c2⟩]
    have ⟨d,hd,e⟩: ∃d,d<10/\b.toNat=48+d:=⟨b.toNat - 48,by omega,by omega⟩
    rw[e,show ((48+d:Nat):Int) - 48=(d:Int) by omega,u8W ⟨d,hd⟩]
    simp only[aa]
    rw[b7 (n:=(p.1:Int)*10) (by omega) (by omega),b7 (by omega) (by omega),ae (by omega),ae (by omega)]
    congr 4
    omega
   ·rw[if_neg (by grind),if_neg (by omega)]
    simp only[aa]
    rw[ae (by omega)]
  ·rw[if_neg (by grind),if_neg (by omega)]
   simp only[aa]
   rw[ae (by omega)]
 grind[ir]
def sgn (s:ByteArray):Int:=if s.data.toList.head? =some 45 then -((dtk s (min s.size 11)).1:Int) else ((dtk s (min s.size 11)).1:Int)
theorem VG (s:ByteArray):(sgn s).natAbs<10 ^ (dtk s (min s.size 11)).2/\(sgn s).natAbs<10 ^ 11:=by
 have ⟨b1,b2⟩:=QB s (min s.size 11)
 have b3:10 ^ (dtk s (min s.size 11)).2<=10 ^ 11:=Nat.pow_le_pow_right (by omega) (by omega)
 grind[sgn,dtk,min]
theorem VH (s:ByteArray):fR s=if 9<(dtk s (min s.size 11)).2\/10<s.size then some (0,false) else if mkB (Lib.itoa (sgn s))=s then some (sgn s,true) else some (0,false):=by
 have hs:=(VG s).2
 have hi:I64 (sgn s):=by unfold I64;omega
 have ⟨b1,b2⟩:=QB s (min s.size 11)
 have b3:10 ^ (dtk s (min s.size 11)).2<=10 ^ 11:=Nat.pow_le_pow_right (by omega) (by omega)
 have fin: ∀z:Int,z=sgn s->(if decide (((dtk s (min s.size 11)).2:Int)>9) then (some (0,false)) else (if decide (((s.size:Nat):Int)>10) then (some (0,false)) else ((bW z).bind fun r10=>if r10 !=s then (some (0,false)) else (some (z,true)))):Option (Int×Bool))=if 9<(dtk s (min s.size 11)).2\/10<s.size then some (0,false) else if mkB (Lib.itoa (sgn s))=s then some (sgn s,true) else some (0,false):=by
  rintro z rfl
  by_cases c1:9<(dtk s (min s.size 11)).2
  ·grind
  ·rw[if_neg (by grind)]
   by_cases c2:10<s.size
   ·grind
   ·rw[if_neg (by grind),if_neg (by omega),tX hi,aa]
    grind
 unfold fR
 rw[ah (X4 s)]
 simp only[]
 by_cases h0:0<s.size
 ·rw[if_pos (decide_eq_true (by omega))]
  have hl:0<s.data.toList.length:=by simpa using h0
  have e0:lu s 0=some (((s.data.toList[0]).toNat:Nat):Int):=Ab (i:=0) h0
  have eh:s.data.toList.head? =some s.data.toList[0]:=by rw[List.head?_eq_getElem?,List.getElem?_eq_getElem hl]
  rw[e0,aa]
  by_cases c:s.data.toList[0] =45
  ·rw[if_pos (by simp_all),aa,b7 (by omega) (by omega)]
   simp_all[sgn,if_pos]
  ·have hn:=fun e=>c (UInt8.toNat_inj.1 e)
   rw[if_neg (fun e=>hn (by grind)),aa]
   grind[sgn]
 ·simp_all[sgn,if_neg]
theorem T7 {n:Int} (h: -999999999<=n/\n<=999999999):Lib.nDigits n.natAbs<=9/\(Lib.itoa n).length<=10:=by
 have k:Lib.nDigits n.natAbs<=9:=ZZ 9 _ (by omega) (by omega)
 grind[Lib.itoa,aK,Lib.decDigits_length]
theorem QC (n:Int):((Lib.itoa n).head? =some 45)↔n<0:=by
 unfold Lib.itoa
 split
 ·grind
 ·have ⟨d,r,hd,e⟩:=Lq n.toNat
  grind[JO,List.head?_cons,Option.some.injEq]
theorem Lr {n:Int} (h: -999999999<=n/\n<=999999999):fR (mkB (Lib.itoa n))=some (n,true)/\fT (mkB (Lib.itoa n))=some (n,true):=by
 have ⟨h9,h10⟩:=T7 h
 constructor
 ·have ed:dtk (mkB (Lib.itoa n)) (min (mkB (Lib.itoa n)).size 11)=(n.natAbs,Lib.nDigits n.natAbs):=by
   unfold dtk
   grind[e6,bB,Nat.min_eq_left,List.take_length,T6]
  have es:sgn (mkB (Lib.itoa n))=n:=by
   unfold sgn
   rw[ed,e6]
   by_cases c:n<0
   ·rw[if_pos ((QC n).2 c)];omega
   ·rw[if_neg fun k=>c ((QC n).1 k)];omega
  simp_all[VH,bB,if_neg,if_pos]
 ·unfold fT R.sn
  rw[bB,e6,if_neg (by omega),Qy]
  show (if _ then _ else _)=_
  rw[if_pos ⟨rfl,h.1,h.2⟩]
theorem T8 {s:ByteArray} (h: ¬ ∃n:Int,(-999999999<=n/\n<=999999999)/\s=mkB (Lib.itoa n)):fR s=some (0,false)/\fT s=some (0,false):=by
 constructor
 ·rw[VH]
  by_cases c:9<(dtk s (min s.size 11)).2\/10<s.size
  ·grind
  ·have b1:=(VG s).1
   have b3:10 ^ (dtk s (min s.size 11)).2<=10 ^ 9:=Nat.pow_le_pow_right (by omega) (by omega)
   grind
 ·unfold fT R.sn
  by_cases c:10<s.size
  ·grind
  ·rw[if_neg c]
   cases ha:Lib.atoi s.data.toList with
   | none=>rfl
   | some n =>
    show (if _ then _ else _)=_
    rw[if_neg fun k=>h ⟨n,k.2,k.1.symm⟩]
theorem ra (s:ByteArray): ∃r:Int×Bool,fR s=some r/\fT s=some r/\((r.2=true/\(-999999999<=r.1/\r.1<=999999999)/\s=mkB (Lib.itoa r.1))\/r=(0,false)):=by
 grind[mkB,Lib.itoa,Lr,T8]
end D
namespace D
open Go.RowKit
abbrev AutT:=Int×(List Bool)×(List (List Int))
structure VA (a:AutT) (n:Nat):Prop where
 len:a.2.1.length=n
 start:0<=a.1/\a.1<n
 nlen:a.2.2.length=n
 row: ∀r∈a.2.2,r.length=9
 ent: ∀r∈a.2.2,∀t∈r,-1<=t/\t<n
def mv (a:AutT) (s:Int) (k:Nat):Int:=nth (nth a.2.2 s) k
theorem JP (x l h:Int):bV x l h=some (decide (l<=x/\x<=h)):=by
 unfold bV
 by_cases c:l<=x
 ·simp[c]
 ·have: ¬l<=x/\True:=⟨c,trivial⟩
  simp[c]
theorem DQ (x l h:Int):bD x l h=some (decide (l<=x/\x<=h)):=by
 unfold bD
 by_cases c:l<=x
 ·simp[c]
 ·simp[c]
theorem scan {α R:Type} [Inhabited α] {f:Int->Option (Out R Int)} (xs:List α) (p:α->Prop) [DecidablePred p] (r:R) (hN:xs.length<=9223372036854775807)
  (h: ∀i:Nat,i<xs.length->f (i:Int)=some (if p (nth xs i) then .nxt ((i+1:Nat):Int) else .ret r)) (he:f (xs.length:Int)=some (.brk (xs.length:Int))) :
  (ak f aP 0=some (.brk (xs.length:Int))/\ ∀x∈xs,p x)\/(ak f aP 0=some (.ret r)/\ ¬ ∀x∈xs,p x):=by
 obtain ⟨o,e,hq⟩:=cz (f:=f) (fun i s=>s=(i:Int)/\ ∀j:Nat,j<i->p (nth xs j)) (fun o=>(o= .brk (xs.length:Int)/\ ∀x∈xs,p x)\/(o= .ret r/\ ¬ ∀x∈xs,p x)) xs.length (s:=0) (by
  rintro i s hi ⟨rfl,hp⟩
  by_cases hl:i<xs.length
  ·by_cases c:p (nth xs i)
   ·refine .inl ⟨hl,_,by rw[h i hl,if_pos c],rfl,fun j hj=>?_⟩
    by_cases e:j=i
    ·subst e;exact c
    ·exact hp j (by omega)
   ·refine .inr ⟨_,by rw[h i hl,if_neg c],(fun s' e=>by cases e),.inr ⟨rfl,fun hx=>c (hx _ (bq (by omega) (by omega)))⟩⟩
  ·obtain rfl:i=xs.length:=by omega
   refine .inr ⟨_,he,(fun s' e=>by cases e),.inl ⟨rfl,fun x hx=>?_⟩⟩
   obtain ⟨j,hj,rfl⟩:=BU hx
   exact hp j hj) ⟨rfl,by omega⟩ (mV hN)
 rcases hq with ⟨rfl,hq⟩ | ⟨rfl,hq⟩
 ·exact .inl ⟨e,hq⟩
 ·exact .inr ⟨e,hq⟩
section
variable {a:AutT} {n:Nat} (V:VA a n)
include V
theorem VA.pos:0<n:=by have:=V.start;omega
theorem VA.rowAt {s:Int} (h0:0<=s) (h1:s<n):(nth a.2.2 s).length=9:=V.row _ (bq h0 (by rw[V.nlen];exact h1))
theorem VA.mv {s:Int} {k:Nat} (h0:0<=s) (h1:s<n) (hk:k<9): -1<=mv a s k/\mv a s k<n:=
 V.ent _ (bq h0 (by rw[V.nlen];exact h1)) _ (bq (by omega) (by rw[V.rowAt h0 h1];omega))
theorem VA.get {s:Int} (h0:0<=s) (h1:s<n):aG a.2.2 s=some (nth a.2.2 s):=aq h0 (by rw[V.nlen];exact h1)
theorem VA.get2 {s:Int} {k:Nat} (h0:0<=s) (h1:s<n) (hk:k<9):aG (nth a.2.2 s) (k:Int)=some (D.mv a s k):=aq (by omega) (by rw[V.rowAt h0 h1];omega)
theorem VA.acc {s:Int} (h0:0<=s) (h1:s<n):aG a.2.1 s=some (nth a.2.1 s):=aq h0 (by rw[V.len];exact h1)
theorem Ls {s:Int} {k:Nat} (h0:0<=s) (h1:s<n) (hk:k<9):bH a s (k:Int)=some (mv a s k):=by
 unfold bH ke
 rw[if_neg (by simp;omega),DQ];simp only[aa]
 rw[if_pos (by simp;omega),V.get h0 h1];simp only[aa]
 rw[V.get2 h0 h1 hk];rfl
end
end D
namespace D
open Go.RowKit
theorem Fv (s:ByteArray):fS s=kg s:=by
 have e:fH s=oe s:=by
  funext p
  unfold fH oe
  rw[Int.mul_comm p.1 257]
 unfold fS kg
 rw[e]
theorem HS (s:ByteArray) (h:s.size<=9223372036854775806): ∃r:Int,fS s=some r/\kg s=some r/\0<=r/\r<=9972:=by
 obtain ⟨p,e,h1,h2,h3⟩:=mQ (f:=fH s) (fun i p=>p.2=(i:Int)/\0<=p.1/\p.1<=9972) s.size (fun i p hi hI=>by
  obtain ⟨n,j⟩:=p
  obtain ⟨h1,h2,h3⟩:=hI
  simp only at h1 h2 h3
  subst h1
  unfold fH
  simp only[]
  rw[if_pos (decide_eq_true (by omega)),Ab hi]
  simp only[aa]
  generalize s.data.toList[i] =b
  have hb:b.toNat<256:=b.toNat_lt
  rw[b7 (n:=((b.toNat:Nat):Int)) (by omega) (by omega),b7 (n:=n*257) (by omega) (by omega),b7 (n:=n*257+(b.toNat:Int)) (by omega) (by omega),b7 (n:=n*257+(b.toNat:Int)+1) (by omega) (by omega),ae (by omega)]
  refine ⟨_,rfl,rfl,?_,?_⟩
  ·exact Int.tmod_nonneg _ (by omega)
  ·have:Int.tmod (n*257+(b.toNat:Int)+1) 9973<9973:=Int.tmod_lt_of_pos _ (by decide)
   show Int.tmod (n*257+(b.toNat:Int)+1) 9973<=9972
   omega) (fun p hI=>by
  obtain ⟨n,j⟩:=p
  obtain ⟨h1,-⟩:=hI
  simp only at h1
  subst h1
  unfold fH
  simp only[]
  rw[if_neg (by simp)]) (s:=(1,0)) ⟨rfl,by decide,by decide⟩ (fV _ (by omega))
 have k:fS s=some p.1:=by
  unfold fS
  rw[ah e]
 exact ⟨p.1,k,by rw[<-Fv];exact k,h2,h3⟩
def edOk (e:Int×Int×Int×Int):Prop:=(1<=e.1/\e.1<=99)/\(0<=e.2.1/\e.2.1<=4)/\(0<=e.2.2.1/\e.2.2.1<=4)/\(0<=e.2.2.2/\e.2.2.2<=2)
instance (e:Int×Int×Int×Int):Decidable (edOk e):=inferInstanceAs (Decidable (_/\_))
def tc (e:Int×Int×Int×Int):List UInt8:=Lib.itoa e.1++ [58] ++Lib.itoa e.2.1++ [UInt8.ofNat (97+e.2.2.2.toNat)] ++Lib.itoa e.2.2.1
theorem T9: ∀k:Fin 3,gB (i64.wrap (2*(k.val:Int)))=some (mkB [UInt8.ofNat (97+k.val)]):=by
 intro k
 match k with
 | ⟨0,_⟩=>rfl
 | ⟨1,_⟩=>rfl
 | ⟨2,_⟩=>rfl
theorem Ua: ∀k:Fin 3,sg (⟨#[97,98,99]⟩) (k.val:Int) (i64.wrap ((k.val:Int)+1))=some (mkB [UInt8.ofNat (97+k.val)]):=by
 intro k
 match k with
 | ⟨0,_⟩=>rfl
 | ⟨1,_⟩=>rfl
 | ⟨2,_⟩=>rfl
theorem QD (e:Int×Int×Int×Int):jt e=some (if edOk e then mkB (tc e) else mkB []):=by
 unfold jt
 rw[JP,JP,JP,JP]
 simp only[aa]
 by_cases h:edOk e
 ·obtain ⟨h1,h2,h3,h4⟩:=h
  rw[if_pos (decide_eq_true h1),if_pos (decide_eq_true h2),if_pos (decide_eq_true h3),if_pos (decide_eq_true h4),if_pos ⟨h1,h2,h3,h4⟩]
  have i1:I64 e.1:=by unfold I64;omega
  have i2:I64 e.2.1:=by unfold I64;omega
  have i3:I64 e.2.2.1:=by unfold I64;omega
  have n1:=uN i1
  have n2:=uN i2
  have n3:=uN i3
  obtain ⟨k,hk,ek⟩: ∃k:Nat,k<3/\e.2.2.2=(k:Int):=⟨e.2.2.2.toNat,by omega,by omega⟩
  rw[tX i1,tX i2,tX i3,ek,T9 ⟨k,hk⟩]
  simp only[aa]
  have c1:mU (mkB (Lib.itoa e.1)) (⟨#[58]⟩)=some (mkB (Lib.itoa e.1++ [58])):=Fu _ [58] (by simp;omega)
  rw[c1]
  simp only[aa]
  rw[Fu _ _ (by simp;omega)]
  simp only[aa]
  rw[Fu _ _ (by simp;omega)]
  simp only[aa]
  rw[Fu _ _ (by simp;omega)]
  simp only[aa]
  unfold tc
  rw[ek];rfl
 ·rw[if_neg h]
  split
  ·split
   ·split
    ·split
     ·rename_i a b c d
      exact absurd ⟨of_decide_eq_true a,of_decide_eq_true b,of_decide_eq_true c,of_decide_eq_true d⟩ h
     ·rfl
    ·rfl
   ·rfl
  ·rfl
theorem QE (e:Int×Int×Int×Int):jx e=some (if edOk e then mkB (tc e) else mkB []):=by
 have h5:i64.wrap (5 - 1)=4:=by decide
 have hok:kd (e.1,e.2.1,e.2.2.1,e.2.2.2) 5=some (decide (edOk e)):=by
  unfold kd
  rw[h5,DQ,DQ,DQ,DQ]
  simp only[aa]
  by_cases h1:1<=e.1/\e.1<=99
  ·rw[if_pos (decide_eq_true h1)]
   by_cases h2:0<=e.2.1/\e.2.1<=4
   ·rw[if_pos (decide_eq_true h2)]
    by_cases h3:0<=e.2.2.1/\e.2.2.1<=4
    ·rw[if_pos (decide_eq_true h3)]
     congr 1
     exact decide_eq_decide.2 ⟨fun h4=>⟨h1,h2,h3,h4⟩,fun h=>h.2.2.2⟩
    ·rw[if_neg (by simpa using h3),decide_eq_false (fun h:edOk e=>h3 h.2.2.1)]
   ·rw[if_neg (by simpa using h2),decide_eq_false (fun h:edOk e=>h2 h.2.1)]
  ·rw[if_neg (by simpa using h1),decide_eq_false (fun h:edOk e=>h1 h.1)]
 unfold jx
 rw[hok]
 simp only[aa]
 by_cases h:edOk e
 ·rw[if_pos (decide_eq_true h),if_pos h]
  obtain ⟨h1,h2,h3,h4⟩:=h
  have i1:I64 e.1:=by unfold I64;omega
  have i2:I64 e.2.1:=by unfold I64;omega
  have i3:I64 e.2.2.1:=by unfold I64;omega
  have n1:=uN i1
  have n2:=uN i2
  have n3:=uN i3
  obtain ⟨k,hk,ek⟩: ∃k:Nat,k<3/\e.2.2.2=(k:Int):=⟨e.2.2.2.toNat,by omega,by omega⟩
  rw[wV i1,wV i2,wV i3,ek,Ua ⟨k,hk⟩]
  simp only[aa]
  have c1:mU (mkB (Lib.itoa e.1)) (⟨#[58]⟩)=some (mkB (Lib.itoa e.1++ [58])):=Fu _ [58] (by simp;omega)
  rw[c1]
  simp only[aa]
  rw[Fu _ _ (by simp;omega)]
  simp only[aa]
  rw[Fu _ _ (by simp;omega)]
  simp only[aa]
  rw[Fu _ _ (by simp;omega)]
  simp only[aa]
  unfold tc
  rw[ek];rfl
 ·rw[if_neg (by simpa using h),if_neg h];rfl
end D
namespace D
open Go.RowKit
abbrev ChT:Type:=Bool×Int×Int×Int×Int
def uh (c:ChT):List UInt8:=(if c.1 then 43 else 45)::tc c.2
def btx (l:List ChT):List UInt8:=Lib.join (l.map uh) [32]
def Ac (l:List ChT):Prop:= ∀c,c∈l->edOk c.2
theorem wW {e:Int×Int×Int×Int} (h:edOk e):(tc e).length<=70:=by
 have ⟨h1,h2,h3,h4⟩:=h
 grind[uN,I64,tc,aC,aK,bf]
theorem QF (e:Int×Int×Int×Int):(mkB (tc e)==(⟨#[]⟩:ByteArray))=false:=by
 rw[beq_eq_false_iff_ne]
 intro k
 have:=congrArg ByteArray.size k
 rw[bB] at this
 unfold tc at this
 simp[aC,aK,bf] at this
 have e0:(⟨#[]⟩:ByteArray).size=0:=rfl
 omega
theorem QG: ∀(r:List ChT),Ac r->(Lib.joinTail [32] (r.map uh)).length<=72*r.length
 | [],_=>by simp[Lib.joinTail]
 | c::r,h=>by
  have h1:=QG r fun q hq=>h q (be _ hq)
  have h2:=wW (h c (by simp))
  grind[Lib.joinTail,uh,aC,aK,bf]
theorem Fw {l:List ChT} (h:Ac l):(btx l).length<=72*l.length:=by
 cases l with
 | nil=>simp[btx,Lib.join_nil]
 | cons c r =>
  have h1:=QG r fun q hq=>h q (be _ hq)
  have h2:=wW (h c (by simp))
  unfold btx
  rw[List.map_cons,Lib.join_cons,aC,aK]
  have:(uh c).length=(tc c.2).length+1:=by unfold uh;rw[aK]
  omega
theorem Ub {l:List ChT} {i:Nat} (hi:i<l.length):btx (l.take (i+1))=if i=0 then uh l[i] else btx (l.take i)++ [32] ++uh l[i]:=by
 unfold btx
 rw[List.take_succ_eq_append_getElem hi,aS,List.map_cons,List.map_nil,Qw]
 by_cases h:i=0
 ·grind
 ·rw[if_neg (by
   intro e
   simp_all),if_neg h]
theorem HT {l:List ChT} {i:Nat} (hi:i<l.length) (h:Ac (l.take i)) (k:edOk l[i].2):Ac (l.take (i+1)):=by
 rw[List.take_succ_eq_append_getElem hi]
 intro c hc
 rcases aH hc with hc | hc
 ·exact h c hc
 grind
theorem X5 {l:List ChT} (hl:l.length<=6):(Ac l/\ak (eT l) aP (([] :List ByteArray),0)=some (.brk (l.map (fun c=>mkB (uh c)),(l.length:Int))))\/(¬Ac l/\ak (eT l) aP (([] :List ByteArray),0)=some (.ret (mkB []))):=by
 have ⟨o,e,hQ⟩:=cz (f:=eT l) (fun i s=>s=((l.take i).map (fun c=>mkB (uh c)),(i:Int))/\Ac (l.take i)) (fun o=>(Ac l/\o= .brk (l.map (fun c=>mkB (uh c)),(l.length:Int)))\/(¬Ac l/\o= .ret (mkB []))) l.length (fun i s hi hI=>by
  obtain ⟨rfl,hb⟩:=hI
  unfold eT
  by_cases h1:i<l.length
  ·rw[bK h1,if_pos rfl,az h1]
   simp only[aa]
   rw[QE]
   simp only[aa]
   by_cases k:edOk l[i].2
   ·have n1:=wW k
    have c1:mU (⟨#[43]⟩) (mkB (tc l[i].2))=some (mkB (43::tc l[i].2)):=Fu [43] _ (by grind)
    have c2:mU (⟨#[45]⟩) (mkB (tc l[i].2))=some (mkB (45::tc l[i].2)):=Fu [45] _ (by grind)
    have hx: ∀z:ByteArray,cM 16 ((l.take i).map (fun c=>mkB (uh c))) [z] =some ((l.take i).map (fun c=>mkB (uh c))++ [z]):=fun z=>aL (by grind)
    refine .inl ⟨h1,((l.take (i+1)).map (fun c=>mkB (uh c)),((i+1:Nat):Int)),?_,rfl,HT h1 hb k⟩
    rw[if_pos k,if_neg (by rw[QF];decide),c1,c2]
    simp only[aa]
    rw[hx,hx,List.take_succ_eq_append_getElem h1,aS,List.map_cons,List.map_nil,<-ae (show i<9223372036854775807 by omega)]
    have ec:uh l[i] =(if l[i].1=true then 43 else 45)::tc l[i].2:=rfl
    rw[ec]
    generalize l[i].1=t
    cases t <;> rfl
   ·refine .inr ⟨.ret (mkB []),?_,fun s' h=>(by grind),.inr ⟨fun h=>k (h _ (List.getElem_mem h1)),rfl⟩⟩
    rw[if_neg k];rfl
  ·obtain rfl:i=l.length:=by omega
   grind) (s:=([],0)) ⟨rfl,fun c hc=>by grind⟩ (fV _ (by omega))
 grind
theorem X6 {l:List ChT} (hl:l.length<=6):(Ac l/\ak (eP l) aP ((⟨#[]⟩:ByteArray),0)=some (.brk (mkB (btx l),(l.length:Int))))\/(¬Ac l/\ak (eP l) aP ((⟨#[]⟩:ByteArray),0)=some (.ret (mkB []))):=by
 have ⟨o,e,hQ⟩:=cz (f:=eP l) (fun i s=>s=(mkB (btx (l.take i)),(i:Int))/\Ac (l.take i)) (fun o=>(Ac l/\o= .brk (mkB (btx l),(l.length:Int)))\/(¬Ac l/\o= .ret (mkB []))) l.length (fun i s hi hI=>by
  obtain ⟨rfl,hb⟩:=hI
  have hn:=Fw hb
  rw[aI] at hn
  unfold eP
  by_cases h1:i<l.length
  ·rw[bK h1,if_pos rfl,az h1]
   simp only[aa]
   rw[QD]
   simp only[aa]
   by_cases k:edOk l[i].2
   ·have n1:=wW k
    refine .inl ⟨h1,(mkB (btx (l.take (i+1))),((i+1:Nat):Int)),?_,rfl,HT h1 hb k⟩
    rw[if_pos k,if_neg (by rw[QF];decide),Ub h1,<-ae (show i<9223372036854775807 by omega)]
    have ec:uh l[i] =(if l[i].1=true then 43 else 45)::tc l[i].2:=rfl
    rw[ec]
    generalize l[i].1=t
    have g1: ∀(a:List UInt8) (b:UInt8),a.length<=1000->mU (mkB a) (mkB [b])=some (mkB (a++ [b])):=fun a b ha=>Fu _ _ (by grind)
    have g2: ∀(a:List UInt8) (b:UInt8),a.length<=1000->mU (mkB (a++ [b])) (mkB (tc l[i].2))=some (mkB (a++b::tc l[i].2)):=fun a b ha=>by
     grind[Fu,aA]
    by_cases h0:i=0
    ·subst h0
     have eb:btx (l.take 0)= []:=rfl
     have q1:=g1 [] 43 (by simp)
     have q2:=g1 [] 45 (by simp)
     have q3:=g2 [] 43 (by simp)
     have q4:=g2 [] 45 (by simp)
     have l1:(⟨#[43]⟩:ByteArray)=mkB [43]:=rfl
     have l2:(⟨#[45]⟩:ByteArray)=mkB [45]:=rfl
     rw[eb,if_pos rfl,if_neg (by simp)]
     simp[aa]
     rw[l1,l2,q1,q2]
     simp only[aa]
     rw[q3,q4]
     cases t <;> rfl
    ·have hs:=g1 (btx (l.take i)) 32 (by omega)
     have q1:=g1 (btx (l.take i)++ [32]) 43 (by grind)
     have q2:=g1 (btx (l.take i)++ [32]) 45 (by grind)
     have q3:=g2 (btx (l.take i)++ [32]) 43 (by grind)
     have q4:=g2 (btx (l.take i)++ [32]) 45 (by grind)
     have l1:(⟨#[43]⟩:ByteArray)=mkB [43]:=rfl
     have l2:(⟨#[45]⟩:ByteArray)=mkB [45]:=rfl
     have l3:(⟨#[32]⟩:ByteArray)=mkB [32]:=rfl
     rw[if_neg h0,if_pos (decide_eq_true (by omega)),l1,l2,l3,hs]
     simp only[aa]
     rw[q1,q2]
     simp only[aa]
     rw[q3,q4]
     cases t <;> rfl
   ·refine .inr ⟨.ret (mkB []),?_,fun s' h=>(by grind),.inr ⟨fun h=>k (h _ (List.getElem_mem h1)),rfl⟩⟩
    rw[if_neg k];rfl
  ·obtain rfl:i=l.length:=by omega
   grind) (s:=((⟨#[]⟩:ByteArray),0)) ⟨rfl,fun c hc=>by grind⟩ (fV _ (by omega))
 grind
open Classical in
theorem tY (l:List ChT):cT l=some (if l.length<=6/\Ac l then mkB (btx l) else mkB [])/\dW l=some (if l.length<=6/\Ac l then mkB (btx l) else mkB []):=by
 unfold cT dW
 by_cases h6:l.length<=6
 ·have hd: ¬decide ((l.length:Int)>6)=true:=by rw[decide_eq_true_eq];omega
  constructor
  ·rw[if_neg hd]
   rcases X6 h6 with ⟨h,e⟩ | ⟨h,e⟩
   ·rw[ah e,if_pos ⟨h6,h⟩]
   ·rw[bp e,if_neg fun k=>h k.2]
  ·rw[if_neg hd]
   rcases X5 h6 with ⟨h,e⟩ | ⟨h,e⟩
   ·have hn:=Fw h
    rw[ah e,if_pos ⟨h6,h⟩]
    show (jJ (l.map fun p=>mkB (uh p)) (mkB [32])).bind _=_
    unfold jJ R.TA chk
    have e:(l.map fun p=>mkB (uh p)).map (·.data.toList)=l.map uh:=by
     rw[List.map_map]
     exact List.map_congr_left fun p _=>e6 _
    rw[e,e6,List.length_map,if_pos ⟨by omega,by show (btx l).length<=_;omega⟩];rfl
   ·rw[bp e,if_neg fun k=>h k.2]
 ·have hd:decide ((l.length:Int)>6)=true:=decide_eq_true (by omega)
  constructor
  ·rw[if_pos hd,if_neg fun k=>h6 k.1];rfl
  ·rw[if_pos hd,if_neg fun k=>h6 k.1];rfl
end D
namespace D
open Go.RowKit
theorem BW (v:Int) (l:List ChT): ∃r:ByteArray,eH v l=some r/\gE v l=some r/\r.size<=1000:=by
 obtain ⟨es,ei⟩:=tY l
 obtain ⟨t,et,hn⟩: ∃t:List UInt8,(cT l=some (mkB t)/\dW l=some (mkB t))/\t.length<=432:=by
  by_cases h:l.length<=6/\Ac l
  ·have:=Fw h.2
   refine ⟨btx l,⟨?_,?_⟩,by omega⟩
   ·rw[es,if_pos h]
   ·rw[ei,if_pos h]
  ·refine ⟨[],⟨?_,?_⟩,by simp⟩
   ·rw[es,if_neg h]
   ·rw[ei,if_neg h]
 obtain ⟨e1,e2⟩:=et
 unfold eH gE
 rw[e1,e2,JP,DQ]
 simp only[aa]
 by_cases hv:1<=v/\v<=999
 ·have iv:I64 v:=by unfold I64;omega
  have nv:=uN iv
  have c1:mU (mkB (Lib.itoa v)) (⟨#[59]⟩)=some (mkB (Lib.itoa v++ [59])):=Fu _ [59] (by simp;omega)
  have c2:mU (mkB (Lib.itoa v++ [59])) (mkB t)=some (mkB (Lib.itoa v++ [59] ++t)):=Fu _ _ (by simp;omega)
  have c3:mU (mkB (Lib.itoa v++ [59] ++t)) (⟨#[59]⟩)=some (mkB (Lib.itoa v++ [59] ++t++ [59])):=Fu _ [59] (by simp;omega)
  obtain ⟨q,k1,k2,q1,q2⟩:=HS (mkB (Lib.itoa v++ [59] ++t++ [59])) (by rw[bB];simp;omega)
  have iq:I64 q:=by unfold I64;omega
  have nq:=uN iq
  have c4:mU (mkB (Lib.itoa v++ [59] ++t++ [59])) (mkB (Lib.itoa q))=some (mkB (Lib.itoa v++ [59] ++t++ [59] ++Lib.itoa q)):=Fu _ _ (by simp;omega)
  have c5:mU (mkB (Lib.itoa v++ [59] ++t++ [59] ++Lib.itoa q)) (⟨#[10]⟩)=some (mkB (Lib.itoa v++ [59] ++t++ [59] ++Lib.itoa q++ [10])):=Fu _ [10] (by simp;omega)
  have hs:(mkB (Lib.itoa v++ [59] ++t++ [59] ++Lib.itoa q++ [10])).size<=1000:=by rw[bB];simp;omega
  have h0:((⟨#[]⟩:ByteArray)).size<=1000:=by decide
  rw[decide_eq_true hv]
  simp only[if_true,tX iv,wV iv,tX iq,wV iq,c1,c2,c3,k1,k2,c4,c5,aa]
  by_cases a:decide ((l.length:Int)>0)=true
  ·by_cases b:(mkB t==(⟨#[]⟩:ByteArray))=true
   ·simp only[if_pos a,if_pos b];exact ⟨_,rfl,rfl,h0⟩
   ·simp only[if_pos a,if_neg b];exact ⟨_,rfl,rfl,hs⟩
  ·by_cases b:(mkB t==(⟨#[]⟩:ByteArray))=true
   ·simp only[if_neg a,if_pos b];exact ⟨_,rfl,rfl,hs⟩
   ·simp only[if_neg a,if_neg b];exact ⟨_,rfl,rfl,hs⟩
 ·rw[decide_eq_false hv]
  exact ⟨_,rfl,rfl,by decide⟩
end D
namespace D
open Go.RowKit
def pJ (c:UInt8) (cur:List UInt8):List UInt8->List (List UInt8)
 | [] =>[cur]
 | b::l=>if b=c then cur::pJ c [] l else pJ c (cur++ [b]) l
theorem oF {c:UInt8} : ∀ {l cur:List UInt8},c∉l->pJ c cur l= [cur++l]
 | [],cur,_=>by simp[pJ]
 | b::l,cur,h=>by
  have hb:b≠c:=fun e=>h (by simp[e])
  rw[pJ,if_neg hb,oF fun k=>h (be _ k)]
  simp
theorem rb {c:UInt8} : ∀ {a cur r:List UInt8},c∉a->pJ c cur (a++c::r)=(cur++a)::pJ c [] r
 | [],cur,r,_=>by simp[pJ]
 | b::a,cur,r,h=>by
  have hb:b≠c:=fun e=>h (by simp[e])
  rw[List.cons_append,pJ,if_neg hb,rb fun k=>h (be _ k)]
  simp
theorem Fx (c:UInt8): ∀(l cur:List UInt8),(pJ c cur l).length<=l.length+1
 | [],cur=>by simp[pJ]
 | b::l,cur=>by
  rw[pJ]
  split
  ·have:=Fx c l [];simp only[aK];omega
  ·have:=Fx c l (cur++ [b]);simp only[aK];omega
theorem tf (c:UInt8): ∀(l cur:List UInt8),∀x∈pJ c cur l,x.length<=cur.length+l.length
 | [],cur,x,h=>by simp[pJ] at h;subst h;simp
 | b::l,cur,x,h=>by
  rw[pJ] at h
  split at h
  ·rcases ax h with rfl | h
   ·simp
   ·have:=tf c l [] x h;simp at this;simp;omega
  ·have:=tf c l _ x h;simp at this;simp;omega
theorem tZ (c:UInt8) (l:List UInt8):c∉l\/ ∃a r,l=a++c::r/\c∉a:=by
 by_cases h:c∈l
 ·obtain ⟨a,r,e,k⟩:=List.eq_append_cons_of_mem h
  exact .inr ⟨a,r,e,k⟩
 ·exact .inl h
theorem Fy (s:ByteArray):mkB s.data.toList=s:=by simp[mkB]
theorem Z0 (s:ByteArray): ∃l:List UInt8,s=mkB l:=⟨_,(Fy s).symm⟩
theorem yd {a b:List UInt8} (h:mkB a=mkB b):a=b:=by rw[<-e6 a,h,e6]
theorem slB {l:List UInt8} {a b:Nat} (h1:a<=b) (h2:b<=l.length):sg (mkB l) (a:Int) (b:Int)=some (mkB ((l.take b).drop a)):=by
 unfold sg chk
 rw[bB,if_pos ⟨by omega,by omega,by omega⟩,aa]
 congr 1
 refine ByteArray.ext ?_
 simp[mkB,List.drop_take]
theorem atB {l:List UInt8} {i:Nat} (h:i<l.length):lu (mkB l) (i:Int)=some ((l[i].toNat:Nat):Int):=by
 rw[Ab (by rw[bB];exact h)]
 simp[mkB]
theorem wX (l:List UInt8) (c:UInt8) (hl:l.length<=1000000):im (mkB l) ((c.toNat:Nat):Int)=some ((pJ c [] l).map mkB):=by
 obtain ⟨s,e,fr,done,rfl,h1,h2,h3⟩:=mQ (f:=oV (mkB l) ((c.toNat:Nat):Int)) (fun i s=> ∃(fr:Nat) (done:List (List UInt8)),s=(done.map mkB,(fr:Int),(i:Int))/\fr<=i/\done.length<=i/\done++pJ c ((l.take i).drop fr) (l.drop i)=pJ c [] l) l.length (fun i s hi hI=>by
  obtain ⟨fr,done,rfl,h1,h2,h3⟩:=hI
  unfold oV
  simp only[]
  rw[if_pos (decide_eq_true (by rw[bB];omega)),atB hi]
  simp only[aa]
  rw[List.drop_eq_getElem_cons hi,pJ] at h3
  by_cases k:l[i] =c
  ·rw[if_pos k] at h3
   rw[if_pos (by rw[k];simp),slB h1 (by omega)]
   simp only[aa]
   have hx:cM 16 (done.map mkB) [mkB ((l.take i).drop fr)] =some (done.map mkB++ [mkB ((l.take i).drop fr)]):=aL (by rw[List.length_map];simp only[aK,bf];omega)
   rw[hx]
   simp only[aa]
   refine ⟨_,rfl,i+1,done++ [(l.take i).drop fr],?_,aF _,by simp;omega,?_⟩
   ·rw[aS,List.map_cons,List.map_nil,ae (by omega)]
   ·rw[<-h3,aA,List.drop_of_length_le (l:=l.take (i+1)) (by rw[aI];omega)];rfl
  ·rw[if_neg k] at h3
   rw[if_neg (fun e=>k (UInt8.toNat_inj.1 (by have:=eq_of_beq e;omega)))]
   simp only[aa]
   refine ⟨_,rfl,fr,done,?_,by omega,by omega,?_⟩
   ·rw[ae (by omega)]
   ·rw[<-h3,List.take_succ_eq_append_getElem hi,List.drop_append_of_le_length (by rw[aI];omega)]) (fun s hI=>by
  obtain ⟨fr,done,rfl,h1,h2,h3⟩:=hI
  unfold oV
  simp only[]
  rw[if_neg (by rw[bB];simp)]) (s:=(([] :List ByteArray),0,0)) ⟨0,[],rfl,aF _,aF _,by simp⟩ (fV _ (by omega))
 unfold im
 rw[ah e,bB]
 simp only[]
 rw[slB h1 (aF _)]
 simp only[aa]
 have hx:cM 16 (done.map mkB) [mkB ((l.take l.length).drop fr)] =some (done.map mkB++ [mkB ((l.take l.length).drop fr)]):=aL (by rw[List.length_map];simp only[aK,bf];omega)
 rw[hx,<-h3,List.drop_length,pJ]
 simp
theorem Fz {c:UInt8} : ∀ {l:List UInt8},c∉l->Lib.index l [c] = -1
 | [],_=>rfl
 | b::l,h=>by
  have hb:c≠b:=fun e=>h (by simp[e])
  have k:([c] :List UInt8).isPrefixOf (b::l)=false:=by simp[List.isPrefixOf,hb]
  rw[Lib.index,k,Fz fun k=>h (be _ k)];rfl
theorem FA {c:UInt8} : ∀ {a r:List UInt8},c∉a->Lib.index (a++c::r) [c] =(a.length:Int)
 | [],r,_=>by simp[Lib.index,List.isPrefixOf]
 | b::a,r,h=>by
  have hb:c≠b:=fun e=>h (by simp[e])
  have k:([c] :List UInt8).isPrefixOf (b::(a++c::r))=false:=by simp[List.isPrefixOf,hb]
  rw[List.cons_append,Lib.index,k,FA fun k=>h (be _ k)]
  rw[if_neg (by decide),if_neg (by rw[beq_iff_eq];omega),aK];omega
theorem HU (c:UInt8): ∀(n:Nat) (l:List UInt8),l.length<=n->Lib.splitK [c] 0 (Lib.count l [c]) l=pJ c [] l
 | n,l,h=>by
  rcases tZ c l with k | ⟨a,r,rfl,k⟩
  ·have e:=Fz k
   rw[Lib.count_miss e,oF k];rfl
  ·have e:=FA (r:=r) k
   have hd:(a++c::r).drop (a.length+1)=r:=by
    rw[<-List.drop_drop,List.drop_left];rfl
   rw[Lib.count_hit (by simp) e,rb k,Nat.add_comm 1,Lib.splitK,e,if_neg (by rw[beq_iff_eq];omega)]
   show List.take (a.length+0) _::Lib.splitK [c] 0 (Lib.count ((a++c::r).drop (a.length+1)) [c]) ((a++c::r).drop (a.length+1))=_
   rw[hd,Nat.add_zero,List.take_left]
   cases n with
   | zero=>simp at h
   | succ n=>rw[HU c n r (by simp at h;omega)];rfl
theorem FB (l:List UInt8) (c:UInt8) (hl:l.length<=1000000):cH (mkB l) (mkB [c])=some ((pJ c [] l).map mkB):=by
 unfold cH R.Le chk
 rw[bB,bB,if_pos ⟨by omega,by simp⟩,aa]
 congr 1
 have e:=Lib.splitB_data (mkB [c]) 0 (Lib.countB (mkB l) (mkB [c])) (mkB l)
 rw[e6,e6] at e
 have e2:Lib.countB (mkB l) (mkB [c])=Lib.count l [c]:=by unfold Lib.countB;rw[e6,e6]
 rw[e2,HU c l.length l (aF _)] at e
 rw[e2,<-e,List.map_map]
 conv=>lhs;rw[<-List.map_id (Lib.splitB _ _ _ _)]
 exact List.map_congr_left fun x _=>(Fy x).symm
theorem Uc {l:List UInt8} {c:UInt8} (hl:l.length<=1000000) (h:c∉l):cW (mkB l) (mkB [c])=some (mkB l,mkB [],false):=by
 unfold cW R.ZQ chk
 rw[bB,if_pos (by omega),aa,e6,e6]
 have:Lib.cut l [c] =(l,[],false):=by unfold Lib.cut;rw[Fz h,if_neg (by decide)]
 rw[this];rfl
theorem VI {a r:List UInt8} {c:UInt8} (hl:(a++c::r).length<=1000000) (h:c∉a):cW (mkB (a++c::r)) (mkB [c])=some (mkB a,mkB r,true):=by
 unfold cW R.ZQ chk
 rw[bB,if_pos (by omega),aa,e6,e6]
 have:Lib.cut (a++c::r) [c] =(a,r,true):=by
  unfold Lib.cut
  rw[FA h,if_pos (by omega)]
  have hd:(a++c::r).drop (a.length+1)=r:=by
   rw[<-List.drop_drop,List.drop_left];rfl
  show (List.take a.length _,List.drop (a.length+1) _,true)=_
  rw[List.take_left,hd]
 rw[this];rfl
theorem Lt {c:UInt8} : ∀ {l:List UInt8},c∉l->Lib.indexByte l c= -1
 | [],_=>rfl
 | b::l,h=>by
  have hb:b≠c:=fun e=>h (by simp[e])
  rw[Lib.indexByte,if_neg (by simpa using hb),Lt fun k=>h (be _ k)];rfl
theorem VJ {c:UInt8} : ∀ {a r:List UInt8},c∉a->Lib.indexByte (a++c::r) c=(a.length:Int)
 | [],r,_=>by simp[Lib.indexByte]
 | b::a,r,h=>by
  have hb:b≠c:=fun e=>h (by simp[e])
  rw[List.cons_append,Lib.indexByte,if_neg (by simpa using hb),VJ fun k=>h (be _ k),if_neg (by rw[beq_iff_eq];omega),aK];omega
end D
namespace D
open Go.RowKit
theorem abQ {α:Type} {l:List α} (h:l.length=3): ∃a b c,l= [a,b,c]:=by
 match l,h with
 | [a,b,c],_=>grind
abbrev EgT:Type:=Int×Int×Int×Int
theorem Ud (c:UInt8) (cur l:List UInt8):1<=(pJ c cur l).length:=by
 grind[tZ,oF,rb]
theorem HV (u:Nat): ∀b∈Lib.decDigits u,48<=b.toNat/\b.toNat<=57:=by
 induction u using Nat.strongRecOn with
 | _ u ih =>
  intro b hb
  have k: ∀d,d<10->48<=(UInt8.ofNat (48+d)).toNat/\(UInt8.ofNat (48+d)).toNat<=57:=fun d hd=>by
   have e:(UInt8.ofNat (48+d)).toNat=48+d:=by simp;omega
   omega
  by_cases h:u<10
  ·grind[Lib.decDigits_one,List.mem_singleton]
  ·rw[Aa h] at hb
   rcases aH hb with hb | hb
   ·exact ih (u / 10) (by omega) b hb
   ·cases au hb
    exact k _ (Nat.mod_lt _ (by omega))
theorem Ue (n:Int): ∀b∈Lib.itoa n,b.toNat=45\/48<=b.toNat/\b.toNat<=57:=by
 intro b hb
 unfold Lib.itoa at hb
 split at hb
 ·rcases ax hb with rfl | hb
  ·grind
  grind[HV]
 grind[HV]
theorem VK {n:Int} {c:UInt8} (h1:c.toNat≠45) (h2:c.toNat<48\/57<c.toNat):c∉Lib.itoa n:=fun h=>by
 grind[Ue]
theorem Z1 {n:Int} (h:0<=n/\n<=9):Lib.itoa n= [UInt8.ofNat (48+n.toNat)]:=by
 unfold Lib.itoa
 rw[if_neg (by omega),Lib.decDigits_one (by omega)]
theorem JQ {e:EgT} (h:edOk e):tc e=Lib.itoa e.1++58:: [UInt8.ofNat (48+e.2.1.toNat),UInt8.ofNat (97+e.2.2.2.toNat),UInt8.ofNat (48+e.2.2.1.toNat)]:=by
 obtain ⟨-,h2,h3,-⟩:=h
 grind[tc,Z1]
theorem Z2: ∀k:Fin 9,∃x,gB (k.val:Int)=some x:=by
 intro k
 match k with
 | ⟨0,_⟩=>exact ⟨_,rfl⟩
 | ⟨1,_⟩=>exact ⟨_,rfl⟩
 | ⟨2,_⟩=>exact ⟨_,rfl⟩
 | ⟨3,_⟩=>exact ⟨_,rfl⟩
 | ⟨4,_⟩=>exact ⟨_,rfl⟩
 | ⟨5,_⟩=>exact ⟨_,rfl⟩
 | ⟨6,_⟩=>exact ⟨_,rfl⟩
 | ⟨7,_⟩=>exact ⟨_,rfl⟩
 | ⟨8,_⟩=>exact ⟨_,rfl⟩
theorem Nd (z:ByteArray): ∃r,iu z=some r:=by
 have ⟨o,e,h⟩:=cz (f:=kI z) (fun i s=>s=(i:Int)) (fun o=> ∀s,o≠ .nxt s) 9 (fun i s hi hI=>by
  subst hI
  unfold kI
  by_cases h1:i<9
  ·have ⟨x,ex⟩:=Z2 ⟨i,h1⟩
   rw[if_pos (decide_eq_true (by omega)),ex]
   simp only[aa]
   by_cases c:(x==z)=true
   ·simp_all
   ·rw[if_neg c];grind[ae]
  ·obtain rfl:i=9:=by omega
   grind) (s:=(0:Int)) rfl (fV _ (by omega))
 unfold iu
 rw[e]
 cases o with
 | nxt s=>grind
 | brk s=>exact ⟨_,rfl⟩
 | ret r=>exact ⟨_,rfl⟩
theorem QH: ∀k:Fin 3,iu (mkB [UInt8.ofNat (97+k.val)])=some (2*(k.val:Int),true):=by
 intro k
 match k with
 | ⟨0,_⟩=>rfl
 | ⟨1,_⟩=>rfl
 | ⟨2,_⟩=>rfl
theorem acR: ∀d:Fin 5,i64.wrap ((i64.wrap (((UInt8.ofNat (48+d.val)).toNat:Nat):Int)) - 48)=(d.val:Int):=by decide
theorem adh: ∀d:Fin 3,i64.wrap ((i64.wrap (((UInt8.ofNat (97+d.val)).toNat:Nat):Int)) - 97)=(d.val:Int):=by decide
theorem adi: ∀d:Fin 3,CZ (2*(d.val:Int)) 2=(d.val:Int):=by decide
def aa4 (s:List UInt8) (r:EgT×Bool):Prop:=r=((0,0,0,0),false)\/r.2=true/\edOk r.1/\s=tc r.1
theorem VL {e:EgT} {s:List UInt8} (h:s≠ []): ∃r:EgT×Bool,(if (if edOk e then mkB (tc e) else mkB []) !=mkB s then (some ((0,0,0,0),false)) else (some (e,true)):Option (EgT×Bool))=some r/\aa4 s r:=by
 by_cases k:edOk e
 ·rw[if_pos k]
  by_cases c:mkB (tc e)=mkB s
  ·rw[if_neg (by simp[c])];exact ⟨_,rfl,.inr ⟨rfl,k,(yd c).symm⟩⟩
  ·rw[if_pos (by grind)];exact ⟨_,rfl,.inl rfl⟩
 ·rw[if_neg k,if_pos (by
   grind[yd])]
  exact ⟨_,rfl,.inl rfl⟩
theorem adj (l:List UInt8) (hl:l.length<=1000000): ∃r,fZ (mkB l)=some r/\aa4 l r:=by
 unfold fZ
 have ec:im (mkB l) 58=some ((pJ 58 [] l).map mkB):=wX l 58 hl
 rw[ec];simp only[aa]
 rcases tZ 58 l with k | ⟨a,r,rfl,k⟩
 ·rw[oF k];exact ⟨_,rfl,.inl rfl⟩
 ·rw[rb k]
  rcases tZ 58 r with k2 | ⟨b,q,rfl,k2⟩
  ·rw[oF k2]
   simp only[List.nil_append,List.map_cons,List.map_nil]
   have g0:aG [mkB a,mkB r] 0=some (mkB a):=rfl
   have g1:aG [mkB a,mkB r] 1=some (mkB r):=rfl
   rw[if_neg (by simp)]
   simp only[g0,g1,aa,bB]
   by_cases h3:r.length=3
   ·obtain ⟨x,y,z,rfl⟩:=abQ h3
    obtain ⟨n,en,-,-⟩:=ra (mkB a)
    have ⟨t,et⟩:=Nd (mkB [y])
    have s1:sg (mkB [x,y,z]) 1 2=some (mkB [y]):=slB (l:=[x,y,z]) (a:=1) (b:=2) (by decide) (by simp)
    have a0:lu (mkB [x,y,z]) 0=some ((x.toNat:Nat):Int):=atB (l:=[x,y,z]) (i:=0) (by simp)
    have a2:lu (mkB [x,y,z]) 2=some ((z.toNat:Nat):Int):=atB (l:=[x,y,z]) (i:=2) (by simp)
    rw[if_neg (by simp),en,s1]
    simp only[aa]
    rw[et,a0,a2]
    simp only[aa]
    rw[QD]
    exact VL (by simp)
   ·rw[if_pos (by grind)];exact ⟨_,rfl,.inl rfl⟩
  ·rw[rb k2]
   have:=Ud 58 [] q
   rw[if_pos (by grind)]
   exact ⟨_,rfl,.inl rfl⟩
theorem adk (l:List UInt8) (hl:l.length<=1000000): ∃r,gj (mkB l)=some r/\aa4 l r:=by
 unfold gj
 rcases tZ 58 l with k | ⟨a,r,rfl,k⟩
 ·have ec:cW (mkB l) (⟨#[58]⟩)=some (mkB l,mkB [],false):=Uc hl k
  rw[ec];exact ⟨_,rfl,.inl rfl⟩
 ·have ec:cW (mkB (a++58::r)) (⟨#[58]⟩)=some (mkB a,mkB r,true):=VI hl k
  rw[ec]
  simp only[aa,bB]
  by_cases h3:r.length=3
  ·obtain ⟨x,y,z,rfl⟩:=abQ h3
   obtain ⟨n,-,en,-⟩:=ra (mkB a)
   have a0:lu (mkB [x,y,z]) 0=some ((x.toNat:Nat):Int):=atB (l:=[x,y,z]) (i:=0) (by simp)
   have a1:lu (mkB [x,y,z]) 1=some ((y.toNat:Nat):Int):=atB (l:=[x,y,z]) (i:=1) (by simp)
   have a2:lu (mkB [x,y,z]) 2=some ((z.toNat:Nat):Int):=atB (l:=[x,y,z]) (i:=2) (by simp)
   rw[if_neg (by simp),en,a0,a1,a2]
   simp only[aa]
   rw[QE]
   exact VL (by simp)
  ·rw[if_pos (by grind)];exact ⟨_,rfl,.inl rfl⟩
theorem X7 {e:EgT} (h:edOk e):fZ (mkB (tc e))=some (e,true)/\gj (mkB (tc e))=some (e,true):=by
 have hn:=wW h
 have he:=JQ h
 have hl:(tc e).length<=1000000:=by omega
 have ⟨h1,h2,h3,h4⟩:=id h
 have ⟨p1,p2⟩:=Lr (n:=e.1) (by omega)
 have k:(58:UInt8)∉Lib.itoa e.1:=VK (by decide) (by decide)
 have ⟨f,hf,ef⟩: ∃k:Nat,k<5/\e.2.1=(k:Int):=⟨e.2.1.toNat,by omega,by omega⟩
 have ⟨t,ht,et⟩: ∃k:Nat,k<5/\e.2.2.1=(k:Int):=⟨e.2.2.1.toNat,by omega,by omega⟩
 have ⟨q,hq,eq⟩: ∃k:Nat,k<3/\e.2.2.2=(k:Int):=⟨e.2.2.2.toNat,by omega,by omega⟩
 have hx:tc e=Lib.itoa e.1++58:: [UInt8.ofNat (48+f),UInt8.ofNat (97+q),UInt8.ofNat (48+t)]:=by
  rw[he,ef,et,eq];rfl
 have k2:(58:UInt8) ∉ [UInt8.ofNat (48+f),UInt8.ofNat (97+q),UInt8.ofNat (48+t)]:=by
  have e1:(UInt8.ofNat (48+f)).toNat=48+f:=by simp;omega
  have e2:(UInt8.ofNat (97+q)).toNat=97+q:=by simp;omega
  have e3:(UInt8.ofNat (48+t)).toNat=48+t:=by simp;omega
  have e4:(58:UInt8).toNat=58:=rfl
  intro hm
  simp only[List.mem_cons,List.not_mem_nil,or_false] at hm
  rcases hm with hm | hm | hm <;> (have:=congrArg UInt8.toNat hm;omega)
 have a0:=atB (l:=[UInt8.ofNat (48+f),UInt8.ofNat (97+q),UInt8.ofNat (48+t)]) (i:=0) (by simp)
 have a1:=atB (l:=[UInt8.ofNat (48+f),UInt8.ofNat (97+q),UInt8.ofNat (48+t)]) (i:=1) (by simp)
 have a2:=atB (l:=[UInt8.ofNat (48+f),UInt8.ofNat (97+q),UInt8.ofNat (48+t)]) (i:=2) (by simp)
 have s1:=slB (l:=[UInt8.ofNat (48+f),UInt8.ofNat (97+q),UInt8.ofNat (48+t)]) (a:=1) (b:=2) (by decide) (by simp)
 have v1:=acR ⟨f,hf⟩
 have v2:=acR ⟨t,ht⟩
 have v3:=adh ⟨q,hq⟩
 have v4:=adi ⟨q,hq⟩
 have v5:=QH ⟨q,hq⟩
 have ee:(e.1,(f:Int),(t:Int),(q:Int))=e:=by grind
 constructor
 ·unfold fZ
  have ec:im (mkB (tc e)) 58=some ((pJ 58 [] (tc e)).map mkB):=wX _ 58 hl
  rw[ec];rw[hx,rb k,oF k2]
  have g0: ∀a b:ByteArray,aG [a,b] 0=some a:=fun a b=>rfl
  have g1: ∀a b:ByteArray,aG [a,b] 1=some b:=fun a b=>rfl
  simp_all[aa,bB,if_neg,QD,if_pos]
 ·unfold gj
  have ec:cW (mkB (tc e)) (⟨#[58]⟩)=some (mkB (Lib.itoa e.1),mkB [UInt8.ofNat (48+f),UInt8.ofNat (97+q),UInt8.ofNat (48+t)],true):=by
   rw[hx] at hl⊢
   exact VI hl k
  rw[ec]
  simp[aa,bB]
  simp_all[if_neg,aa,QE,if_pos]
theorem QI (l:List UInt8) (hl:l.length<=1000000): ∃r,fZ (mkB l)=some r/\gj (mkB l)=some r/\aa4 l r:=by
 by_cases h: ∃e:EgT,edOk e/\l=tc e
 ·obtain ⟨e,he,rfl⟩:=h
  exact ⟨_,(X7 he).1,(X7 he).2,.inr ⟨rfl,he,rfl⟩⟩
 ·have ⟨r1,e1,k1⟩:=adj l hl
  have ⟨r2,e2,k2⟩:=adk l hl
  rcases k1 with rfl | ⟨-,a,b⟩
  ·rcases k2 with rfl | ⟨-,a,b⟩
   ·exact ⟨_,e1,e2,.inl rfl⟩
   grind
  grind
end D
namespace D
open Go.RowKit
theorem Uf {e:EgT} (h:edOk e) {c:UInt8} (h1:c.toNat≠45) (h2:c.toNat<48):c∉tc e:=by
 obtain ⟨-,-,-,h4⟩:=id h
 rw[JQ h]
 intro hm
 rcases aH hm with hm | hm
 ·grind[VK]
 ·have e1:(UInt8.ofNat (48+e.2.1.toNat)).toNat=48+e.2.1.toNat:=by have:=h.2.1;simp;omega
  have e2:(UInt8.ofNat (97+e.2.2.2.toNat)).toNat=97+e.2.2.2.toNat:=by simp;omega
  have e3:(UInt8.ofNat (48+e.2.2.1.toNat)).toNat=48+e.2.2.1.toNat:=by have:=h.2.2.1;simp;omega
  have e4:(58:UInt8).toNat=58:=rfl
  simp only[List.mem_cons,List.not_mem_nil,or_false] at hm
  rcases hm with hm | hm | hm | hm <;> (have:=congrArg UInt8.toNat hm;omega)
theorem Lu {c:ChT} (h:edOk c.2) {b:UInt8} (h1:b.toNat≠45) (h2:b.toNat<48) (h3:b.toNat≠43):b∉uh c:=by
 intro hm
 rcases ax hm with hm | hm
 ·have:=congrArg UInt8.toNat hm
  split at this
  ·grind
  grind
 grind[Uf]
theorem zj {c:UInt8} : ∀ {r:List (List UInt8)} {x:List UInt8},c∉x->(∀y∈r,c∉y)->pJ c [] (x++Lib.joinTail [c] r)=x::r
 | [],x,hx,_=>by
  have:Lib.joinTail [c] [] = []:=by simp[Lib.joinTail]
  rw[this,List.append_nil,oF hx];rfl
 | y::r,x,hx,hr=>by
  have:Lib.joinTail [c] (y::r)=c::(y++Lib.joinTail [c] r):=by simp[Lib.joinTail]
  rw[this,rb hx,zj (hr y (by simp)) fun z hz=>hr z (be _ hz)];rfl
theorem QJ {l:List ChT} (h:Ac l) (h0:l≠ []):pJ 32 [] (btx l)=l.map uh:=by
 cases l with
 | nil=>grind
 | cons c r =>
  unfold btx
  rw[List.map_cons,Lib.join_cons]
  refine zj (Lu (h c (by simp)) (by decide) (by decide) (by decide)) fun y hy=>?_
  obtain ⟨d,hd,rfl⟩:=List.mem_map.1 hy
  exact Lu (h d (be _ hd)) (by decide) (by decide) (by decide)
theorem X8:btx [] = []:=by simp[btx,Lib.join_nil]
theorem VM {l:List ChT} (h0:l≠ []):btx l≠ []:=by
 cases l with
 | nil=>grind
 | cons c r=>unfold btx;rw[List.map_cons,Lib.join_cons];simp[uh]
def aa5 (s:List UInt8) (r:(List ChT)×Bool):Prop:=r=([],false)\/r.2=true/\r.1.length<=6/\Ac r.1/\s=btx r.1
theorem QK {p:List UInt8} (h:1<=p.length):sg (mkB p) 1 (p.length:Int)=some (mkB (p.drop 1)):=by
 have:=slB (l:=p) (a:=1) (b:=p.length) h (aF _)
 grind
theorem tg (p:List UInt8):(mkB p==(⟨#[]⟩:ByteArray))=decide (p= []):=by
 by_cases h:p= []
 ·subst h;rfl
 ·rw[decide_eq_false h,beq_eq_false_iff_ne]
  intro k
  exact h (yd (b:=[]) k)
open Classical in
theorem VN {f:List ChT->Option ByteArray} (hf: ∀l,f l=some (if l.length<=6/\Ac l then mkB (btx l) else mkB [])) {b:List ChT} {s:List UInt8} (h:s≠ []): ∃r:(List ChT)×Bool,((f b).bind fun r16=>if r16 !=mkB s then (some (([] :List ChT),false)) else (some (b,true)):Option ((List ChT)×Bool))=some r/\aa5 s r:=by
 rw[hf]
 simp only[aa]
 by_cases k:b.length<=6/\Ac b
 ·rw[if_pos k]
  by_cases c:mkB (btx b)=mkB s
  ·rw[if_neg (by simp[c])];exact ⟨_,rfl,.inr ⟨rfl,k.1,k.2,(yd c).symm⟩⟩
  ·rw[if_pos (by simpa using c)];exact ⟨_,rfl,.inl rfl⟩
 ·rw[if_neg k,if_pos (by
   rw[bne_iff_ne]
   exact fun c=>h (yd c).symm)]
  exact ⟨_,rfl,.inl rfl⟩
theorem adl (l:List UInt8) (hl:l.length<=1000000): ∃r,fc (mkB l)=some r/\(l= [] \/aa5 l r):=by
 unfold fc
 by_cases h0:l= []
 ·simp_all[tg,if_pos,decide_eq_true]
 rw[tg,if_neg (by grind)]
 have ec:im (mkB l) 32=some ((pJ 32 [] l).map mkB):=wX l 32 hl
 rw[ec];simp only[aa]
 have ⟨o,e,hQ⟩:=cz (f:=c7 ((pJ 32 [] l).map mkB)) (fun i s=> ∃b:List ChT,s=((i:Int),b)/\b.length=i) (fun o=>o= .ret (([] :List ChT),false)\/ ∃s,o= .brk s) 7 (fun i s hi hI=>by
  obtain ⟨b,rfl,hb⟩:=hI
  unfold c7
  by_cases h1:i<((pJ 32 [] l).map mkB).length
  ·rw[bK h1,if_pos rfl]
   by_cases h7:i<=6
   ·rw[if_pos (decide_eq_true (by omega)),az h1]
    simp only[aa]
    rw[List.length_map] at h1
    have hp:=tf 32 l [] _ (List.getElem_mem h1)
    rw[List.getElem_map]
    generalize (pJ 32 [] l)[i] =p at hp⊢
    rw[bB]
    by_cases h2:p.length<2
    ·grind
    ·rw[if_neg (by grind),QK (by omega)]
     simp only[aa]
     obtain ⟨r,er,-,-⟩:=QI (p.drop 1) (by grind)
     rw[er]
     simp only[aa]
     have a0:lu (mkB p) 0=some ((p[0].toNat:Nat):Int):=atB (l:=p) (i:=0) (by omega)
     by_cases h3:r.2=true
     ·rw[if_pos h3,a0]
      simp only[aa]
      have hx: ∀z:ChT,cM 40 b [z] =some (b++ [z]):=fun z=>aL (by grind)
      rw[hx]
      exact .inl ⟨by omega,_,rfl,_,by rw[ae (by omega)],by simp;omega⟩
     grind
   ·rw[if_neg (by grind)]
    grind
  simp_all[if_neg,decide_eq_true_eq]) (s:=(0,([] :List ChT))) ⟨[],rfl,rfl⟩ (fV _ (by omega))
 rcases hQ with rfl | ⟨s,rfl⟩
 ·rw[bp e];exact ⟨_,rfl,.inr (.inl rfl)⟩
 ·rw[ah e]
  have ⟨r,er,k⟩:=VN (f:=cT) (fun l=>(tY l).1) (b:=s.2) h0
  grind
theorem adm (l:List UInt8) (hl:l.length<=1000000): ∃r,fe (mkB l)=some r/\(l= [] \/aa5 l r):=by
 unfold fe
 by_cases h0:l= []
 ·simp_all[tg,if_pos,decide_eq_true]
 rw[tg,if_neg (by grind)]
 have ec:cH (mkB l) (⟨#[32]⟩)=some ((pJ 32 [] l).map mkB):=FB l 32 hl
 rw[ec];simp only[aa]
 have hn:=Fx 32 l []
 have ⟨o,e,hQ⟩:=cz (f:=dh ((pJ 32 [] l).map mkB)) (fun i s=> ∃b:List ChT,s=((i:Int),b)/\b.length=i) (fun o=>o= .ret (([] :List ChT),false)\/ ∃s,o= .brk s) (pJ 32 [] l).length (fun i s hi hI=>by
  obtain ⟨b,rfl,hb⟩:=hI
  unfold dh
  by_cases h1:i<((pJ 32 [] l).map mkB).length
  ·rw[bK h1,if_pos rfl,az h1]
   simp only[aa]
   rw[List.length_map] at h1
   have hp:=tf 32 l [] _ (List.getElem_mem h1)
   rw[List.getElem_map]
   generalize (pJ 32 [] l)[i] =p at hp⊢
   rw[tg,bB]
   by_cases h2:p= []
   ·grind
   ·have h2':=List.length_pos_iff.2 h2
    rw[if_neg (by grind),QK h2']
    simp only[aa]
    obtain ⟨r,-,er,-⟩:=QI (p.drop 1) (by grind)
    rw[er]
    simp only[aa]
    have a0:lu (mkB p) 0=some ((p[0].toNat:Nat):Int):=atB (l:=p) (i:=0) (by omega)
    by_cases h3:r.2=true
    ·rw[if_pos h3,a0]
     simp only[aa]
     have hx: ∀z:ChT,cM 40 b [z] =some (b++ [z]):=fun z=>aL (by grind)
     rw[hx]
     exact .inl ⟨by omega,_,rfl,_,by rw[ae (by omega)],by simp;omega⟩
    grind
  simp_all[if_neg,decide_eq_true_eq]) (s:=(0,([] :List ChT))) ⟨[],rfl,rfl⟩ (fV _ (by omega))
 rcases hQ with rfl | ⟨s,rfl⟩
 ·rw[bp e];exact ⟨_,rfl,.inr (.inl rfl)⟩
 ·rw[ah e]
  have ⟨r,er,k⟩:=VN (f:=dW) (fun l=>(tY l).2) (b:=s.2) h0
  grind
theorem QL {L:List ChT} (h:Ac L) (h6:L.length<=6) {i:Nat} (hi:i<L.length):c7 ((L.map uh).map mkB) ((i:Int),L.take i)=some (.nxt (((i+1:Nat):Int),L.take (i+1)))/\dh ((L.map uh).map mkB) ((i:Int),L.take i)=some (.nxt (((i+1:Nat):Int),L.take (i+1))):=by
 have hl:i<((L.map uh).map mkB).length:=by rw[List.length_map,List.length_map];exact hi
 have hk:=h _ (List.getElem_mem hi)
 have eg:((L.map uh).map mkB)[i] =mkB (uh L[i]):=by simp
 have ⟨p1,p2⟩:=X7 hk
 have hs:(uh L[i]).length=(tc L[i].2).length+1:=by rfl
 have h4:4<=(tc L[i].2).length:=by rw[JQ hk];simp
 have ed:(uh L[i]).drop 1=tc L[i].2:=rfl
 have a0:lu (mkB (uh L[i])) 0=some (((if L[i].1 then (43:UInt8) else 45).toNat:Nat):Int):=atB (l:=uh L[i]) (i:=0) (by omega)
 have hz:((((if L[i].1 then (43:UInt8) else 45).toNat:Nat):Int)==43)=L[i].1:=by
  generalize L[i].1=t
  cases t <;> rfl
 have hx: ∀z:ChT,cM 40 (L.take i) [z] =some (L.take i++ [z]):=fun z=>aL (by grind)
 have et:=List.take_succ_eq_append_getElem hi
 have st:=QK (p:=uh L[i]) (by omega)
 constructor
 ·unfold c7
  rw[bK hl,if_pos rfl,if_pos (decide_eq_true (by omega)),az hl,eg]
  simp[aa]
  rw[bB,if_neg (by grind),st,ed]
  simp[aa]
  rw[p1]
  simp only[aa]
  rw[if_pos trivial,a0]
  simp[aa]
  rw[hz,hx,ae (by omega),et];rfl
 ·unfold dh
  rw[bK hl,if_pos rfl,az hl,eg]
  simp only[aa]
  rw[tg,if_neg (by grind),bB,st,ed]
  simp[aa]
  rw[p2]
  simp only[aa]
  rw[if_pos trivial,a0]
  simp[aa]
  rw[hz,hx,ae (by omega),et];rfl
theorem Z3 {L:List ChT} (h:Ac L) (h6:L.length<=6):fc (mkB (btx L))=some (L,true)/\fe (mkB (btx L))=some (L,true):=by
 by_cases h0:L= []
 ·subst h0
  exact ⟨rfl,rfl⟩
 have hn:=Fw h
 have hl:(btx L).length<=1000000:=by omega
 have ⟨b1,b2⟩:=tY L
 have hs:=aO (f:=c7 ((L.map uh).map mkB)) (fun i=>((i:Int),L.take i)) L.length (fun i hi=>(QL h h6 hi).1) (by
  simp_all[c7,if_neg]) (fV _ (by omega))
 have hi:=aO (f:=dh ((L.map uh).map mkB)) (fun i=>((i:Int),L.take i)) L.length (fun i hi=>(QL h h6 hi).2) (by
  simp_all[dh,if_neg]) (fV _ (by omega))
 constructor
 ·unfold fc
  have ec:im (mkB (btx L)) 32=some ((pJ 32 [] (btx L)).map mkB):=wX _ 32 hl
  rw[tg,if_neg (by simpa using VM h0),ec,QJ h h0]
  grind[ah]
 ·unfold fe
  have ec:cH (mkB (btx L)) (⟨#[32]⟩)=some ((pJ 32 [] (btx L)).map mkB):=FB _ 32 hl
  rw[tg,if_neg (by simpa using VM h0),ec,QJ h h0]
  grind[ah]
theorem X9 (l:List UInt8) (hl:l.length<=1000000): ∃r,fc (mkB l)=some r/\fe (mkB l)=some r/\aa5 l r:=by
 by_cases h: ∃L:List ChT,L.length<=6/\Ac L/\l=btx L
 ·obtain ⟨L,h6,hk,rfl⟩:=h
  exact ⟨_,(Z3 hk h6).1,(Z3 hk h6).2,.inr ⟨rfl,h6,hk,rfl⟩⟩
 ·have hne:l≠ []:=fun e=>h ⟨[],by simp,fun c hc=>by grind,by rw[e,X8]⟩
  have ⟨r1,e1,k1⟩:=adl l hl
  have ⟨r2,e2,k2⟩:=adm l hl
  rcases k1 with k | rfl | ⟨-,a,b,c⟩
  ·grind
  ·rcases k2 with k | rfl | ⟨-,a,b,c⟩
   ·grind
   ·exact ⟨_,e1,e2,.inl rfl⟩
   grind
  grind
end D
namespace D
open Go.RowKit
def recT (v:Int) (b:List ChT):List UInt8:=((eH v b).getD ByteArray.empty).data.toList
theorem Z4 (v:Int) (b:List ChT):eH v b=some (mkB (recT v b))/\gE v b=some (mkB (recT v b))/\(recT v b).length<=1000:=by
 have ⟨r,e1,e2,h⟩:=BW v b
 grind[mkB,recT,Fy,bB]
def totL (r:List Int) (q:List (List ChT)):Nat->Nat
 | 0=>0
 | i+1=>totL r q i+(recT (nth r (i:Int)) (nth q (i:Int))).length
theorem Lv {r:List Int} {q:List (List ChT)} (h:q.length=r.length) (x:List Int) (y:List (List ChT)): ∀i,i<=r.length->totL (r++x) (q++y) i=totL r q i
 | 0,_=>rfl
 | i+1,hi=>by
  rw[totL,totL,Lv h x y i (by omega),iL (by omega) (by omega),iL (by omega) (by omega)]
theorem QM {r:List Int} {q:List (List ChT)} (h:q.length=r.length) (v:Int) (b:List ChT):totL (r++ [v]) (q++ [b]) (r++ [v]).length=totL r q r.length+(recT v b).length:=by
 have e1:nth (r++ [v]) ((r.length:Nat):Int)=v:=by rw[cf (by simp)];simp
 have e2:nth (q++ [b]) ((r.length:Nat):Int)=b:=by rw[<-h,cf (by simp)];simp
 simp_all[aC,aK,bf,Nat.zero_add,totL,Lv,aF]
theorem QN (l:List UInt8) (hl:l.length<=1000000): ∃r:Int×List ChT×Bool,jF (mkB l)=some r/\jK (mkB l)=some r/\r.2.1.length<=6/\(-999999999<=r.1/\r.1<=999999999)/\(r.2.2=true->recT r.1 r.2.1=l):=by
 unfold jF jK
 have ec:im (mkB l) 59=some ((pJ 59 [] l).map mkB):=wX l 59 hl
 have ei:cH (mkB l) (⟨#[59]⟩)=some ((pJ 59 [] l).map mkB):=FB l 59 hl
 rw[ec,ei];by_cases h3:(pJ 59 [] l).length=3
 ·have hp:=tf 59 l []
  have ⟨a,b,c,e⟩:=abQ h3
  rw[e] at hp⊢
  have hb:=hp b (by simp)
  rw[bf] at hb
  have g0:aG [mkB a,mkB b,mkB c] 0=some (mkB a):=rfl
  have g1:aG [mkB a,mkB b,mkB c] 1=some (mkB b):=rfl
  have ⟨v,v1,v2,kv⟩:=ra (mkB a)
  have ⟨q,q1,q2,k⟩:=X9 b (by omega)
  obtain ⟨t,t1,t2,-⟩:=BW v.1 q.1
  have hq:q.1.length<=6:=by
   rcases k with rfl | ⟨-,k,-⟩
   ·simp
   ·exact k
  by_cases c1:v.2=true
  ·by_cases c2:q.2=true
   ·by_cases c3:(t !=mkB l)=true
    ·simp_all
    ·simp[if_pos c1,if_pos c2,if_neg c3];grind[mkB,Z4,yd,ad]
   simp_all
  simp_all
 ·have k:(((List.map mkB (pJ 59 [] l)).length:Int) !=3)=true:=by
   rw[bne_iff_ne,List.length_map];omega
  simp_all
def ScOk (vs:List Int) (bs:List (List ChT)):Prop:=bs.length=vs.length/\(∀b∈bs,b.length<=6)/\ ∀v∈vs,(-999999999<=v/\v<=999999999)/\v<=nth vs ((vs.length:Int) - 1)
theorem Ug (vs:List Int) (v:Int):nth (vs++ [v]) (((vs++ [v]).length:Int) - 1)=v:=by
 simp_all[cf]
theorem ScOk.push {vs:List Int} {bs:List (List ChT)} (h:ScOk vs bs) {v:Int} {b:List ChT} (hb:b.length<=6) (hv: -999999999<=v/\v<=999999999) (hx:0<vs.length->v=i64.wrap (nth vs ((vs.length:Int) - 1)+1)):ScOk (vs++ [v]) (bs++ [b]):=by
 have ⟨h1,h2,h3⟩:=h
 refine ⟨by grind,fun d hd=>?_,fun d hd=>?_⟩
 ·grind
 ·rw[Ug]
  rcases aH hd with q | q
  ·grind[List.length_pos_of_mem,bq,b7]
  grind
theorem FC {l:List UInt8} (hl:l.length<=4000) {vs:List Int} {bs:List (List ChT)} {u:Int} : ∀(a r:List UInt8) (i k:Nat),(10:UInt8)∉a->l.drop i=a++r->i<=l.length->ak (bg (mkB l)) (k+a.length) (vs,bs,u,(i:Int))=ak (bg (mkB l)) k (vs,bs,u,((i+a.length:Nat):Int))
 | [],r,i,k,_,_,_=>rfl
 | x::a,r,i,k,hx,e,hi=>by
  have h1:i<l.length:=by
   have:=congrArg List.length e
   rw[bJ,aC,aK] at this;omega
  have e0:=List.drop_eq_getElem_cons h1
  rw[e0,List.cons_append] at e
  have ⟨e1,e2⟩:=List.cons.inj e
  have hn:x.toNat≠10:=fun q=>hx (by
   have:x=10:=UInt8.toNat_inj.1 q
   grind)
  have st:bg (mkB l) (vs,bs,u,(i:Int))=some (.nxt (vs,bs,u,((i+1:Nat):Int))):=by
   unfold bg
   rw[bB,bK h1,if_pos rfl,if_pos (decide_eq_true (by omega)),atB h1,e1]
   simp only[aa]
   rw[if_pos (by grind),ae (by omega)];rfl
  rw[aK,show k+(a.length+1)=(k+a.length)+1 by omega,ak,st]
  show ak _ (k+a.length) _=_
  rw[FC hl a r (i+1) k (fun q=>hx (be _ q)) e2 h1,show i+1+a.length=i+(a.length+1) by omega]
theorem Ya {l:List UInt8} (hl:l.length<=4000): ∀(m p:Nat) (vs:List Int) (bs:List (List ChT)),l.length - p<m->p<=l.length->vs.length<=p->ScOk vs bs->totL vs bs vs.length<=p-> ∃(r:List Int) (q:List (List ChT)) (n:Nat),(∀k,l.length - p+1<=k->(ak (bg (mkB l)) k (vs,bs,(p:Int),(p:Int))=some (.ret (r,q,(n:Int)))\/ ∃i,ak (bg (mkB l)) k (vs,bs,(p:Int),(p:Int))=some (.brk (r,q,(n:Int),i)))/\ak (cw (mkB l)) k (vs,bs,(p:Int))=some (.brk (r,q,(n:Int))))/\n<=l.length/\r.length<=n/\ScOk r q/\totL r q r.length<=n:=by
 intro m
 induction m with
 | zero=>omega
 | succ m ih =>
  intro p vs bs hm hp hv hb ht
  have hbl:=hb.1
  have hsl:sg (mkB l) (p:Int) (l.length:Int)=some (mkB (l.drop p)):=by
   rw[slB hp (aF _),List.take_length]
  rcases tZ 10 (l.drop p) with k | ⟨a,t,e,k⟩
  ·refine ⟨vs,bs,p,fun j hj=>⟨.inr ⟨(l.length:Int),?_⟩,?_⟩,hp,hv,hb,ht⟩
   ·have hd:(l.drop p).length=l.length - p:=bJ ..
    obtain ⟨j,rfl⟩: ∃j',j=(j'+1)+(l.drop p).length:=⟨j - 1 - (l.length - p),by omega⟩
    rw[FC hl (l.drop p) [] p (j+1) k (by simp) hp,ak,hd,show p+(l.length - p)=l.length by omega]
    have:bg (mkB l) (vs,bs,(p:Int),(l.length:Int))=some (.brk (vs,bs,(p:Int),(l.length:Int))):=by
     unfold bg
     simp only[]
     rw[bB,if_neg (by simp)]
    grind
   ·obtain ⟨j,rfl⟩: ∃j',j=j'+1:=⟨j - 1,by omega⟩
    have:cw (mkB l) (vs,bs,(p:Int))=some (.brk (vs,bs,(p:Int))):=by
     unfold cw
     simp only[]
     have ei:eS (mkB (l.drop p)) 10=some (-1):=by
      show some (Lib.indexByte _ 10)=_
      rw[e6,Lt k]
     rw[bB,if_pos (decide_eq_true (by omega)),hsl]
     simp only[aa]
     rw[ei]
     simp only[aa]
     rfl
    rw[ak,this]
  ·have hlen:(l.drop p).length=l.length - p:=bJ ..
   rw[e,aC,aK] at hlen
   have hn:p+a.length<l.length:=by omega
   have hx:l[p+a.length] =10:=by
    have:(l.drop p)[a.length]? =some 10:=by rw[e];simp
    rw[List.getElem?_drop,List.getElem?_eq_getElem hn] at this
    exact ad this
   have ⟨r,r1,r2,h6,h9,h8⟩:=QN ((l.take (p+a.length+1)).drop p) (by grind)
   have es:sg (mkB l) (p:Int) ((p+a.length+1:Nat):Int)=some (mkB ((l.take (p+a.length+1)).drop p)):=slB (by omega) (by omega)
   have ei:eS (mkB (l.drop p)) 10=some (a.length:Int):=by
    show some (Lib.indexByte _ 10)=_
    rw[e6,e,VJ k]
   have w1:i64.wrap ((i64.wrap ((p:Int)+(a.length:Int)))+1)=((p+a.length+1:Nat):Int):=by
    rw[b7 (n:=(p:Int)+(a.length:Int)) (by omega) (by omega),b7 (by omega) (by omega)];omega
   have w2:i64.wrap ((p:Int)+(i64.wrap ((a.length:Int)+1)))=((p+a.length+1:Nat):Int):=by
    rw[b7 (n:=(a.length:Int)+1) (by omega) (by omega),b7 (by omega) (by omega)];omega
   have step:(bg (mkB l) (vs,bs,(p:Int),((p+a.length:Nat):Int))=some (.ret (vs,bs,(p:Int)))/\cw (mkB l) (vs,bs,(p:Int))=some (.brk (vs,bs,(p:Int))))\/(bg (mkB l) (vs,bs,(p:Int),((p+a.length:Nat):Int))=some (.nxt (vs++ [r.1],bs++ [r.2.1],((p+a.length+1:Nat):Int),((p+a.length+1:Nat):Int)))/\cw (mkB l) (vs,bs,(p:Int))=some (.nxt (vs++ [r.1],bs++ [r.2.1],((p+a.length+1:Nat):Int)))/\(0<vs.length->r.1=i64.wrap (nth vs ((vs.length:Int) - 1)+1))/\r.2.2=true):=by
    have x1:cM 8 vs [r.1] =some (vs++ [r.1]):=aL (by grind)
    have x2:cM 24 bs [r.2.1] =some (bs++ [r.2.1]):=aL (by grind)
    unfold bg cw
    simp only[]
    rw[bB,bK hn,if_pos rfl,if_pos (decide_eq_true (by omega)),if_pos (decide_eq_true (by omega)),atB hn,hx,hsl]
    simp only[aa]
    rw[if_neg (by decide),ei,ae (show p+a.length<9223372036854775807 by omega),es]
    simp only[aa]
    rw[r1,if_neg (by simp),w1,w2,es]
    simp only[aa]
    rw[r2]
    simp only[aa]
    by_cases c1:r.2.2=true
    ·rw[if_pos c1,if_pos c1]
     by_cases c2:decide ((vs.length:Int)>0)=true
     ·rw[if_pos c2,if_pos c2]
      have h0:0<vs.length:=by simpa using c2
      rw[jB (by omega),aq (xs:=vs) (by omega) (by omega)]
      simp only[aa]
      by_cases c3:(r.1 !=i64.wrap (nth vs ((vs.length:Int) - 1)+1))=true
      ·rw[if_pos c3,if_pos c3];exact .inl ⟨rfl,rfl⟩
      ·rw[if_neg c3,if_neg c3,x1,x2];exact .inr ⟨rfl,rfl,(fun _=>by grind),c1⟩
     ·rw[if_neg c2,if_neg c2,x1,x2];exact .inr ⟨rfl,rfl,(fun h=>absurd (decide_eq_true (show (vs.length:Int)>0 by omega)) c2),c1⟩
    ·rw[if_neg c1,if_neg c1];exact .inl ⟨rfl,rfl⟩
   rcases step with ⟨s1,s2⟩ | ⟨s1,s2,s3,s4⟩
   ·refine ⟨vs,bs,p,fun j hj=>⟨.inl ?_,?_⟩,hp,hv,hb,ht⟩
    ·obtain ⟨j,rfl⟩: ∃j',j=(j'+1)+a.length:=⟨j - 1 - a.length,by omega⟩
     simp_all[FC,ak]
    ·obtain ⟨j,rfl⟩: ∃j',j=j'+1:=⟨j - 1,by omega⟩
     rw[ak,s2]
   ·have hT:totL (vs++ [r.1]) (bs++ [r.2.1]) (vs++ [r.1]).length<=p+a.length+1:=by
     rw[QM hbl,h8 s4,bJ,aI];omega
    have ⟨R,Q,n,h1,h2,h3,h4⟩:=ih (p+a.length+1) (vs++ [r.1]) (bs++ [r.2.1]) (by omega) (by omega) (by grind) (hb.push h6 h9 s3) hT
    refine ⟨R,Q,n,fun j hj=>⟨?_,?_⟩,h2,h3,h4⟩
    ·obtain ⟨j,rfl⟩: ∃j',j=(j'+1)+a.length:=⟨j - 1 - a.length,by omega⟩
     rw[FC hl a (10::t) p (j+1) k e hp,ak,s1]
     exact (h1 j (by omega)).1
    ·obtain ⟨j,rfl⟩: ∃j',j=j'+1:=⟨j - 1,by omega⟩
     grind[ak]
theorem HW (l:List UInt8) (hl:l.length<=1000000000): ∃(r:List Int) (q:List (List ChT)) (n:Nat),m_s_ScanLog (mkB l)=some (r,q,(n:Int))/\m_i_ScanLog (mkB l)=some (r,q,(n:Int))/\n<=l.length/\r.length<=4000/\ScOk r q/\totL r q r.length<=n:=by
 unfold m_s_ScanLog m_i_ScanLog
 by_cases h:l.length<=4000
 ·have ⟨r,q,n,h1,h2,h3,h4⟩:=Ya h (l.length+1) 0 [] [] (by omega) (by omega) (by simp) ⟨rfl,fun b hb=>(by cases hb),fun b hb=>(by cases hb)⟩ (Nat.zero_le _)
  have ⟨k1,k2⟩:=h1 aP (fV _ (by omega))
  have k2:ak (cw (mkB l)) aP (([] :List Int),([] :List (List ChT)),0)=some (.brk (r,q,(n:Int))):=k2
  refine ⟨r,q,n,?_,?_,h2,by omega,h4⟩
  ·rcases k1 with k1 | ⟨i,k1⟩
   ·have k1:ak (bg (mkB l)) aP (([] :List Int),([] :List (List ChT)),0,0)=_:=k1
    rw[bp k1]
   ·have k1:ak (bg (mkB l)) aP (([] :List Int),([] :List (List ChT)),0,0)=_:=k1
    rw[ah k1]
  ·rw[ah k2]
 ·have hf:=fV 100 (by omega)
  have ⟨k,hk⟩: ∃k,aP=k+1:=⟨aP - 1,by omega⟩
  have k1:ak (bg (mkB l)) aP (([] :List Int),([] :List (List ChT)),0,0)=some (.brk ([],[],0,0)):=by
   rw[hk,ak]
   have:bg (mkB l) (([] :List Int),([] :List (List ChT)),0,0)=some (.brk ([],[],0,0)):=by
    unfold bg
    simp only[]
    rw[bB,if_pos (decide_eq_true (by omega)),if_neg (by grind)]
   grind
  have k2:ak (cw (mkB l)) aP (([] :List Int),([] :List (List ChT)),0)=some (.brk ([],[],0)):=by
   rw[hk,ak]
   have:cw (mkB l) (([] :List Int),([] :List (List ChT)),0)=some (.brk ([],[],0)):=by
    unfold cw
    rw[bB,if_neg (by grind)]
   grind
  rw[ah k1,ah k2]
  exact ⟨[],[],0,rfl,rfl,by omega,by simp,⟨rfl,fun b hb=>(by cases hb),fun b hb=>(by cases hb)⟩,aF _⟩
end D
namespace D
open Go.RowKit
abbrev GrT:=(List Int)×(List Yq1)
theorem Nf {R:Type} {f:Int->Option (Out R Int)} (N:Nat) (p:Nat->Prop) [DecidablePred p] (r:R) (hN:N<=9223372036854775807)
  (h: ∀i:Nat,i<N->f (i:Int)=some (if p i then .nxt ((i+1:Nat):Int) else .ret r)) (he:f (N:Int)=some (.brk (N:Int))) :
  (ak f aP 0=some (.brk (N:Int))/\ ∀i,i<N->p i)\/(ak f aP 0=some (.ret r)/\ ¬ ∀i,i<N->p i):=by
 obtain ⟨o,e,hq⟩:=cz (f:=f) (fun i s=>s=(i:Int)/\ ∀j:Nat,j<i->p j) (fun o=>(o= .brk (N:Int)/\ ∀i,i<N->p i)\/(o= .ret r/\ ¬ ∀i,i<N->p i)) N (s:=0) (by
  rintro i s hi ⟨rfl,hp⟩
  by_cases hl:i<N
  ·by_cases c:p i
   ·refine .inl ⟨hl,_,by rw[h i hl,if_pos c],rfl,fun j hj=>?_⟩
    by_cases e:j=i
    ·subst e;exact c
    ·exact hp j (by omega)
   ·exact .inr ⟨_,by rw[h i hl,if_neg c],(fun s' e=>by cases e),.inr ⟨rfl,fun hx=>c (hx i hl)⟩⟩
  ·obtain rfl:i=N:=by omega
   exact .inr ⟨_,he,(fun s' e=>by cases e),.inl ⟨rfl,hp⟩⟩) ⟨rfl,by omega⟩ (mV hN)
 rcases hq with ⟨rfl,hq⟩ | ⟨rfl,hq⟩
 ·exact .inl ⟨e,hq⟩
 ·exact .inr ⟨e,hq⟩
structure GOk (g:GrT):Prop where
 n1:1<=g.1.length
 n5:g.1.length<=5
 m:g.2.length<=12
 val: ∀v∈g.1,0<=v/\v<=2
 edge: ∀e∈g.2,(0<=e.2.1/\e.2.1<g.1.length)/\(0<=e.2.2.1/\e.2.2.1<g.1.length)/\0<=e.2.2.2/\e.2.2.2<=2
 asc: ∀i:Nat,i+1<g.2.length->(nth g.2 i).1<(nth g.2 ((i+1:Nat):Int)).1
def edgeP (e:Int×Int×Int×Int) (n:Int):Prop:=(1<=e.1/\e.1<=99)/\(0<=e.2.1/\e.2.1<=n - 1)/\(0<=e.2.2.1/\e.2.2.1<=n - 1)/\0<=e.2.2.2/\e.2.2.2<=2
instance (e n):Decidable (edgeP e n):=by unfold edgeP;infer_instance
theorem Z5 (e:Int×Int×Int×Int) {n:Nat} (hn:n<=1048576):kd e (n:Int)=some (decide (edgeP e n)):=by
 unfold kd edgeP
 simp only[DQ,aa,jB (show n<=9223372036854775807 by omega)]
 by_cases c1:1<=e.1/\e.1<=99 <;> by_cases c2:0<=e.2.1/\e.2.1<=(n:Int) - 1 <;> by_cases c3:0<=e.2.2.1/\e.2.2.1<=(n:Int) - 1 <;> simp[c1,c2,c3]
def abR (g:GrT):Prop:=GOk g/\ ∀e∈g.2,1<=e.1/\e.1<=99
theorem Lw (g:GrT) (h1:g.1.length<=1048576) (h2:g.2.length<=1048576): ∃b,aW g=some b/\(b=true↔abR g):=by
 unfold aW
 have k0:=Nf (f:=dS g) g.1.length (fun i=>0<=nth g.1 i/\nth g.1 i<=2) false (by omega) (fun i hi=>by
  unfold dS
  rw[if_pos (by simp;omega),aq (by omega) (by omega)];simp only[aa,DQ,decide_eq_true_eq]
  split
  ·rw[ae (by omega)]
  ·rfl) (by unfold dS;rw[if_neg (by simp)])
 have k1:=Nf (f:=db g) g.2.length (fun i=>edgeP (nth g.2 i) g.1.length/\(0<i->(nth g.2 ((i:Int) - 1)).1<(nth g.2 i).1)) false (by omega) (fun i hi=>by
  unfold db
  rw[if_pos (by simp;omega),aq (by omega) (by omega)];simp only[aa]
  have e1:=Z5 (nth g.2 (i:Int)) h1
  have e1:kd ((nth g.2 (i:Int)).1,(nth g.2 (i:Int)).2.1,(nth g.2 (i:Int)).2.2.1,(nth g.2 (i:Int)).2.2.2) (g.1.length:Int)=_:=e1
  rw[e1];simp only[aa,decide_eq_true_eq]
  by_cases c1:edgeP (nth g.2 (i:Int)) g.1.length
  ·rw[if_pos c1]
   by_cases c2:0<i
   ·rw[if_pos (by omega),jB (by omega),aq (by omega) (by omega)];simp only[aa]
    by_cases c3:(nth g.2 ((i:Int) - 1)).1<(nth g.2 (i:Int)).1
    ·rw[if_neg (by omega),if_pos ⟨c1,fun _=>c3⟩,ae (by omega)]
    ·rw[if_pos (by omega),if_neg (fun h=>c3 (h.2 c2))]
   ·rw[if_neg (by omega),if_pos ⟨c1,fun h=>absurd h c2⟩,ae (by omega)]
  ·rw[if_neg c1,if_neg (fun h=>c1 h.1)]) (by unfold db;rw[if_neg (by simp)])
 rcases k0 with ⟨k0,j0⟩ | ⟨k0,j0⟩
 ·rw[ah k0]
  rcases k1 with ⟨k1,j1⟩ | ⟨k1,j1⟩
  ·rw[ah k1,DQ];simp only[aa,decide_eq_true_eq]
   split
   ·rename_i c
    refine ⟨_,rfl,fun hb=>?_,fun G=>decide_eq_true (by have:=G.1.m;omega)⟩
    have hb:=of_decide_eq_true hb
    refine ⟨⟨by omega,by omega,by omega,fun v hv=>?_,fun e he=>?_,fun i hi=>?_⟩,fun e he=>?_⟩
    rotate_left 3
    ·obtain ⟨i,hi,rfl⟩:=BU he
     exact (j1 i hi).1.1
    ·obtain ⟨i,hi,rfl⟩:=BU hv
     exact j0 i hi
    ·obtain ⟨i,hi,rfl⟩:=BU he
     obtain ⟨a1,a2,a3,a4⟩:=(j1 i hi).1
     exact ⟨⟨a2.1,by omega⟩,⟨a3.1,by omega⟩,a4⟩
    ·have:=(j1 (i+1) hi).2 (by omega)
     rwa [show (((i+1:Nat):Int) - 1)=(i:Int) from by omega] at this
   ·rename_i c
    exact ⟨false,rfl,(fun h=>by cases h),fun G=>absurd (by have:=G.1.n1;have:=G.1.n5;omega) c⟩
  ·rw[bp k1]
   refine ⟨false,rfl,(fun h=>by cases h),fun G=>absurd (fun i hi=>?_) j1⟩
   have hm:=bq (xs:=g.2) (i:=(i:Int)) (by omega) (by omega)
   obtain ⟨e1,e2,e3,e4⟩:=G.1.edge _ hm
   refine ⟨⟨G.2 _ hm,⟨e1.1,by omega⟩,⟨e2.1,by omega⟩,e3,e4⟩,fun h0=>?_⟩
   have:=G.1.asc (i - 1) (by omega)
   rwa [show ((i - 1:Nat):Int)=(i:Int) - 1 from by omega,show (((i - 1)+1:Nat):Int)=(i:Int) from by omega] at this
 ·rw[bp k0]
  exact ⟨false,rfl,(fun h=>by cases h),fun G=>absurd (fun i hi=>G.1.val _ (bq (by omega) (by omega))) j0⟩
theorem Lx (g:GrT) (h1:g.1.length<=1048576) (h2:g.2.length<=1048576): ∃b,aW g=some b/\(b=true->GOk g):=by
 obtain ⟨b,h1,h2⟩:=Lw g h1 h2
 exact ⟨b,h1,fun h=>(h2.1 h).1⟩
theorem GOk.lt {g:GrT} (G:GOk g) {i j:Nat} (h:i<j) (hj:j<g.2.length):(nth g.2 (i:Int)).1<(nth g.2 (j:Int)).1:=by
 induction h with
 | refl=>exact G.asc i hj
 | step h ih =>
  rename_i m
  have h1:=ih (by omega)
  have h2:=G.asc m hj
  exact Int.lt_trans h1 h2
end D
namespace D
open Go.RowKit
theorem wY (m:Nat):BitVec.ofInt 64 (m:Int)=BitVec.ofNat 64 m:=by simp
theorem QO {m n:Nat} (hm:m<2 ^ 62) (hn:n<2 ^ 62):tn (m:Int) (n:Int)=((m &&& n:Nat):Int):=by
 unfold tn
 rw[wY,wY,BitVec.toNat_and,BitVec.toNat_ofNat,BitVec.toNat_ofNat,Nat.mod_eq_of_lt (by omega),Nat.mod_eq_of_lt (by omega)]
 have:m &&& n<=m:=Nat.and_le_left
 exact b7 (by omega) (by omega)
theorem Ly {m n:Nat} (hm:m<2 ^ 62) (hn:n<2 ^ 62):orI (m:Int) (n:Int)=((m ||| n:Nat):Int):=by
 unfold orI
 rw[wY,wY,BitVec.toNat_or,BitVec.toNat_ofNat,BitVec.toNat_ofNat,Nat.mod_eq_of_lt (by omega),Nat.mod_eq_of_lt (by omega)]
 have:m ||| n<2 ^ 62:=Nat.or_lt_two_pow hm hn
 exact b7 (by omega) (by omega)
theorem FD {m i:Nat} (hi:i<64):oK (m:Int) (i:Int)=((m >>> i:Nat):Int):=by
 unfold oK
 rw[show min (i:Int).toNat 64=i from by simp;omega,Nat.shiftRight_eq_div_pow,Int.fdiv_eq_ediv_of_nonneg _ (by exact_mod_cast Nat.zero_le _)]
 simp
theorem ye {i:Nat} (hi:i<62):xf 1 (i:Int)=((2 ^ i:Nat):Int):=by
 unfold xf
 rw[show min (i:Int).toNat 64=i from by simp;omega,Int.one_mul]
 have:2 ^ i<2 ^ 62:=Nat.pow_lt_pow_right (by decide) hi
 rw[show ((2:Int) ^ i)=((2 ^ i:Nat):Int) from by simp]
 generalize 2 ^ i=z at this
 exact b7 (by omega) (by omega)
theorem BX {m i:Nat} (hm:m<2 ^ 62) (hi:i<64):((tn (oK (m:Int) (i:Int)) 1)==1)=m.testBit i:=by
 have h1:m >>> i<2 ^ 62:=Nat.lt_of_le_of_lt (by rw[Nat.shiftRight_eq_div_pow];exact Nat.div_le_self _ _) hm
 rw[FD hi,show (1:Int)=((1:Nat):Int) from rfl,QO h1 (by decide),Nat.testBit,Nat.and_comm]
 have e:m >>> i &&& 1=m >>> i % 2:=Nat.and_one_is_mod _
 rw[Nat.and_comm 1,e]
 rcases Nat.mod_two_eq_zero_or_one (m >>> i) with h | h <;> rw[h] <;> rfl
theorem Uh {m i:Nat} (hm:m<2 ^ 62) (hi:i<64):((tn (oK (m:Int) (i:Int)) 1)==0)= !m.testBit i:=by
 have h1:m >>> i<2 ^ 62:=Nat.lt_of_le_of_lt (by rw[Nat.shiftRight_eq_div_pow];exact Nat.div_le_self _ _) hm
 rw[FD hi,show (1:Int)=((1:Nat):Int) from rfl,QO h1 (by decide),Nat.testBit,Nat.and_comm]
 have e:m >>> i &&& 1=m >>> i % 2:=Nat.and_one_is_mod _
 rw[Nat.and_comm 1,e]
 rcases Nat.mod_two_eq_zero_or_one (m >>> i) with h | h <;> rw[h] <;> rfl
def e7 (m k:Nat):List Int:=((List.range k).filter fun i=>m.testBit i).map fun (i:Nat)=>(i:Int)
theorem ko (m k:Nat):e7 m (k+1)=if m.testBit k then e7 m k++ [(k:Int)] else e7 m k:=by
 unfold e7
 rw[List.range_succ,List.filter_append,aS]
 by_cases h:m.testBit k=true
 ·simp[h]
 ·simp[h]
theorem ua {m k l:Nat} (h:m<2 ^ k) (hl:k<=l):e7 m l=e7 m k:=by
 induction hl with
 | refl=>rfl
 | step hl ih =>
  rw[ko,Nat.testBit_lt_two_pow (ay h (Nat.pow_le_pow_right (by decide) hl)),ih];rfl
theorem th {m k:Nat} {x:Int} :x∈e7 m k↔ ∃i:Nat,i<k/\m.testBit i=true/\x=(i:Int):=by
 unfold e7
 simp only[List.mem_map,List.mem_filter,List.mem_range]
 constructor
 ·rintro ⟨i,⟨h1,h2⟩,rfl⟩;exact ⟨i,h1,h2,rfl⟩
 ·rintro ⟨i,h1,h2,rfl⟩;exact ⟨i,⟨h1,h2⟩,rfl⟩
theorem mR (m k:Nat):(e7 m k).length<=k:=by
 unfold e7;rw[List.length_map];exact Nat.le_trans (List.length_filter_le _ _) (by simp)
theorem DR {m:Nat} : ∀ {k:Nat},(∀i,i<k->m.testBit i=false)->e7 m k= []
 | 0,_=>rfl
 | k+1,h=>by rw[ko,h k (by omega),DR fun i hi=>h i (by omega)];rfl
theorem HY {s k:Nat} (h:s<k):e7 (2 ^ s) k= [(s:Int)]:=by
 rw[ua (k:=s+1) (Nat.pow_lt_pow_right (by decide) (by omega)) h,ko,Nat.testBit_two_pow,DR fun i hi=>by rw[Nat.testBit_two_pow];simp;omega]
 simp
theorem uO (m i j:Nat):(m ||| 2 ^ i).testBit j=(m.testBit j || decide (i=j)):=by
 rw[Nat.testBit_or,Nat.testBit_two_pow]
theorem wZ {m i k:Nat} (h:m<2 ^ k) (hi:i<k):m ||| 2 ^ i<2 ^ k:=Nat.or_lt_two_pow h (Nat.pow_lt_pow_right (by decide) hi)
theorem Ui {m i:Nat} (h:m >>> i=0):m<2 ^ i:=by
 rw[Nat.shiftRight_eq_div_pow] at h
 exact (Nat.div_eq_zero_iff_lt (Nat.two_pow_pos i)).1 h
end D
namespace D
open Go.RowKit
theorem kp {p:Prop} [Decidable p] (h:p):chk p=some ():=by unfold chk;rw[if_pos h]
def acS {R S T:Type} (φ:S->T):Out R S->Out R T
 | .ret r=>.ret r
 | .nxt s=>.nxt (φ s)
 | .brk s=>.brk (φ s)
theorem HZ {R S T:Type} {f:S->Option (Out R S)} {f':T->Option (Out R T)} (φ:S->T) (Inv:S->Prop)
  (h: ∀s,Inv s->f' (φ s)=(f s).map (acS φ)) (hi: ∀s s',Inv s->f s=some (.nxt s')->Inv s'): ∀n s,Inv s->ak f' n (φ s)=(ak f n s).map (acS φ)
 | 0,_,_=>rfl
 | n+1,s,hs=>by
  have e:=h s hs
  unfold ak
  rw[e]
  cases hf:f s with
  | none=>rfl
  | some o =>
   cases o with
   | ret r=>rfl
   | brk s'=>rfl
   | nxt s'=>exact HZ φ Inv h hi n s' (hi s s' hs hf)
theorem p62 {n:Nat} (h:n<=30):2 ^ n<=2 ^ 62:=Nat.pow_le_pow_right (by decide) (by omega)
theorem tj {M:Nat} (hM:M<2 ^ 30):iH (M:Int)=some (e7 M 30):=by
 have h62:M<2 ^ 62:=ay hM (p62 (by decide))
 obtain ⟨o,e,hq⟩:=cz (f:=pC (M:Int)) (fun i s=>s=(e7 M i,(i:Int))) (fun o=> ∃k,o= .brk (e7 M 30,k)) 30 (s:=([],0)) (by
  rintro i s hi rfl
  unfold pC
  have e0:chk ((0:Int)<=(i:Int))=some ():=by unfold chk;rw[if_pos (by omega)]
  simp only[e0,aa]
  by_cases c:M >>> i=0
  ·refine .inr ⟨.brk (e7 M i,(i:Int)),?_,(fun s' e=>by cases e),(i:Int),by rw[ua (Ui c) hi]⟩
   rw[FD (by omega),c];rfl
  ·have hi':i<30:=by
    rcases Nat.lt_or_ge i 30 with h | h
    ·exact h
    ·exfalso;apply c
     rw[Nat.shiftRight_eq_div_pow]
     exact Nat.div_eq_of_lt (ay hM (Nat.pow_le_pow_right (by decide) h))
   refine .inl ⟨hi',(e7 M (i+1),((i+1:Nat):Int)),?_,rfl⟩
   have c':((oK (M:Int) (i:Int)) !=0)=true:=by
    rw[FD (by omega)]
    simp only[bne_iff_ne,ne_eq]
    omega
   rw[if_pos c',BX h62 (by omega),ko,ae (by omega)]
   by_cases b:M.testBit i=true
   ·rw[if_pos b,if_pos b,aL (by have:=mR M i;simp;omega)];rfl
   ·rw[if_neg b,if_neg b];rfl) rfl (by unfold aP;omega)
 obtain ⟨k,rfl⟩:=hq
 unfold iH
 exact ah e
def ClI (n:Nat) (i:Nat) (st:Int×Int):Prop:=(-1<=st.2/\st.2<n)/\ ∃(M:Nat) (L:List Int),st.1=(M:Int)/\M<2 ^ n/\L.length=i/\L.Nodup/\(∀x∈L,0<=x/\x<n)/\ ∀j:Nat,M.testBit j=true↔(j:Int)∈L
theorem Z6 {n:Nat} {L:List Int} (h:L.Nodup) (k: ∀x∈L,0<=x/\x<n):L.length<=n:=by
 have:=h.length_le_of_subset (l₂:=(List.range n).map fun i:Nat=>(i:Int)) (fun x hx=>by
  obtain ⟨h0,h1⟩:=k x hx
  exact List.mem_map.2 ⟨x.toNat,List.mem_range.2 (by omega),by omega⟩)
 simpa using this
section
variable {a:AutT} {n:Nat} (V:VA a n) (hn:n<=12)
include V hn
theorem Yb {v:Int} (hv:0<=v/\v<=2) {i:Nat} {st:Int×Int} (h:ClI n i (st.2,st.1)) :
  (i<n/\ ∃st',c8 a v st=some (.nxt st')/\ClI n (i+1) (st'.2,st'.1))\/c8 a v st=some (.brk st):=by
 obtain ⟨⟨h1,h2⟩,M,L,e1,hM,hl,hd,hr,hb⟩:=h
 obtain ⟨s,m⟩:=st
 obtain rfl:m=(M:Int):=e1
 have h62:M<2 ^ 62:=ay hM (p62 (by omega))
 unfold c8
 simp only at h1 h2⊢
 by_cases c:s≥0
 ·obtain ⟨k,rfl⟩: ∃k:Nat,s=(k:Int):=⟨s.toNat,by omega⟩
  have hk:k<n:=by omega
  have e0:chk ((0:Int)<=(k:Int))=some ():=by unfold chk;rw[if_pos (by omega)]
  simp only[e0,aa]
  rw[if_pos (by simp),Uh h62 (by omega)]
  by_cases b:M.testBit k=true
  ·right;rw[if_neg (by simp[b])]
  ·left
   have b':(k:Int)∉L:=fun hh=>b ((hb k).2 hh)
   have hle:=Z6 (n:=n) (L:=(k:Int)::L) (List.nodup_cons.2 ⟨b',hd⟩) (fun x hx=>by
    rcases ax hx with rfl | hx
    ·omega
    ·exact hr x hx)
   simp only[aK] at hle
   obtain ⟨u,rfl⟩: ∃u:Nat,v=(u:Int):=⟨v.toNat,by omega⟩
   have hu:u<=2:=by omega
   have ew:i64.wrap (6+(u:Int))=((6+u:Nat):Int):=by rw[b7 (by omega) (by omega)];omega
   refine ⟨by omega,(mv a (k:Int) (6+u),((M ||| 2 ^ k:Nat):Int)),?_,?_,M ||| 2 ^ k,(k:Int)::L,rfl,wZ hM hk,by simp[hl],List.nodup_cons.2 ⟨b',hd⟩,?_,?_⟩
   ·rw[if_pos (by simp[b]),ew,V.get (s:=(k:Int)) (by omega) (by omega)]
    simp only[aa]
    rw[V.get2 (s:=(k:Int)) (k:=6+u) (by omega) (by omega) (by omega),ye (by omega),Ly h62 (Nat.pow_lt_pow_right (by decide) (by omega))];rfl
   ·exact V.mv (by omega) (by omega) (by omega)
   ·intro x hx
    rcases ax hx with rfl | hx
    ·omega
    ·exact hr x hx
   ·intro j
    rw[uO,Bool.or_eq_true,hb j,List.mem_cons,decide_eq_true_eq]
    constructor
    ·rintro (h | h)
     ·exact .inr h
     ·left;omega
    ·rintro (h | h)
     ·right;omega
     ·exact .inl h
 ·right
  rw[if_neg (by simpa using c)]
theorem H0 {s v:Int} (hs:0<=s/\s<n) (hv:0<=v/\v<=2): ∃C:Nat,cr a s v=some (C:Int)/\C<2 ^ n:=by
 have h0:ClI n 0 (0,s):=⟨⟨by simp only;omega,hs.2⟩,0,[],rfl,Nat.two_pow_pos n,rfl,List.nodup_nil,by simp,by simp⟩
 obtain ⟨o,e,C,s',rfl,hC⟩:=cz (f:=c8 a v) (fun i st=>ClI n i (st.2,st.1)) (fun o=> ∃(C:Nat) (s':Int),o= .brk (s',(C:Int))/\C<2 ^ n) n (s:=(s,0)) (fun i st hi h=>by
  rcases Yb V hn hv h with h' | h'
  ·exact .inl h'
  ·obtain ⟨_,M,L,e1,hM,_⟩:=h
   obtain ⟨s',m⟩:=st
   obtain rfl:m=(M:Int):=e1
   exact .inr ⟨_,h',(fun s' e=>by cases e),M,s',rfl,hM⟩) h0 (by unfold aP;omega)
 exact ⟨C,by unfold cr;exact ah e,hC⟩
end
def cS (a:AutT) (s v:Int):Nat:=((cr a s v).getD 0).toNat
section
variable {a:AutT} {n:Nat} (V:VA a n) (hn:n<=12)
include V hn
theorem QP {s v:Int} (hs:0<=s/\s<n) (hv:0<=v/\v<=2):cr a s v=some (cS a s v:Int)/\cS a s v<2 ^ n:=by
 obtain ⟨C,e,h⟩:=H0 V hn hs hv
 unfold cS
 rw[e]
 exact ⟨rfl,by simpa using h⟩
theorem BY {s v:Int} (hs:0<=s/\s<n) (hv:0<=v/\v<=2):cr a s v=some (cS a s v:Int):=(QP V hn hs hv).1
theorem Uj {s v:Int} (hs:0<=s/\s<n) (hv:0<=v/\v<=2):cS a s v<2 ^ n:=(QP V hn hs hv).2
theorem H1 {s v:Int} (hs:0<=s/\s<n) (hv:0<=v/\v<=2):j5 a s v=some (cS a s v:Int)/\cS a s v<2 ^ n:=by
 refine ⟨?_,Uj V hn hs hv⟩
 have e:=BY V hn hs hv
 have k:=HZ (f:=jy a v) (f':=c8 a v) (fun st=>(st.2,st.1)) (fun st=> -1<=st.2/\st.2<n) (by
  rintro ⟨m,s⟩ ⟨h0,h1⟩
  unfold c8 jy
  simp only at h0 h1⊢
  by_cases c:0<=s
  ·simp only[decide_eq_true (show s≥0 from c),if_true,kp c,aa]
   have ew:i64.wrap (6+v)=(((6+v).toNat:Nat):Int):=by rw[b7 (by omega) (by omega)];omega
   have e2:=Ls V (s:=s) (k:=(6+v).toNat) c h1 (by omega)
   have e2:bH (a.1,a.2.1,a.2.2) s (((6+v).toNat:Nat):Int)=_:=e2
   rw[ew,e2,V.get c h1];simp only[aa]
   rw[V.get2 c h1 (by omega)];simp only[aa]
   split <;> rfl
  ·simp only[decide_eq_false (show¬s≥0 from c),Bool.false_eq_true,if_false];rfl) (by
  rintro ⟨m,s⟩ ⟨m',s'⟩ ⟨h0,h1⟩ hf
  unfold jy at hf
  simp only at h0 h1 hf⊢
  by_cases c:0<=s
  ·simp only[decide_eq_true (show s≥0 from c),if_true,kp c,aa] at hf
   have ew:i64.wrap (6+v)=(((6+v).toNat:Nat):Int):=by rw[b7 (by omega) (by omega)];omega
   have e2:=Ls V (s:=s) (k:=(6+v).toNat) c h1 (by omega)
   have e2:bH (a.1,a.2.1,a.2.2) s (((6+v).toNat:Nat):Int)=_:=e2
   rw[ew,e2] at hf;simp only[aa] at hf
   split at hf
   ·cases hf
    exact V.mv c h1 (by omega)
   ·cases hf
  ·simp only[decide_eq_false (show¬s≥0 from c),Bool.false_eq_true,if_false] at hf;cases hf) aP (0,s) ⟨by simp only;omega,hs.2⟩
 unfold cr at e
 unfold j5
 simp only at k
 rw[k] at e
 cases hl:ak (jy a v) aP (0,s) with
 | none=>rw[hl] at e;cases e
 | some o =>
  rw[hl] at e
  cases o with
  | ret r=>exact e
  | brk s'=>exact e
  | nxt s'=>cases e
end
def afS (a:AutT) (k:Nat) (C:Nat):Nat->Nat
 | 0=>0
 | q+1=>if C.testBit q=true/\0<=mv a (q:Int) k then afS a k C q ||| 2 ^ (mv a (q:Int) k).toNat else afS a k C q
def afL (a:AutT) (k:Nat) (l:List Int):Nat:=l.foldl (fun m t=>if 0<=mv a t k then m ||| 2 ^ (mv a t k).toNat else m) 0
theorem JR (a:AutT) (k C:Nat): ∀q,afL a k (e7 C q)=afS a k C q
 | 0=>rfl
 | q+1=>by
  rw[ko,afS]
  by_cases b:C.testBit q=true
  ·rw[if_pos b]
   unfold afL
   rw[List.foldl_append]
   have:=JR a k C q
   unfold afL at this
   rw[this]
   simp[b]
  ·rw[if_neg b,if_neg (fun h=>b h.1)]
   exact JR a k C q
section
variable {a:AutT} {n:Nat} (V:VA a n) (hn:n<=12)
include V
theorem QQ {k C:Nat} (hk:k<9): ∀q,q<=n->afS a k C q<2 ^ n
 | 0,_=>Nat.two_pow_pos n
 | q+1,hq=>by
  rw[afS]
  have:=QQ (C:=C) hk q (by omega)
  split
  ·rename_i c
   have:=(V.mv (s:=(q:Int)) (by omega) (by omega) hk).2
   exact wZ (by assumption) (by omega)
  ·exact this
theorem VO {k:Nat} (hk:k<9) {l:List Int} (h: ∀x∈l,0<=x/\x<n):afL a k l<2 ^ n:=by
 unfold afL
 have key: ∀(l:List Int) (m:Nat),(∀x∈l,0<=x/\x<n)->m<2 ^ n->l.foldl (fun m t=>if 0<=mv a t k then m ||| 2 ^ (mv a t k).toNat else m) m<2 ^ n:=by
  intro l
  induction l with
  | nil=>intro m _ h;exact h
  | cons x l ih =>
   intro m hx hm
   rw[List.foldl_cons]
   refine ih _ (fun y hy=>hx y (by simp[hy])) ?_
   split
   ·have:=(V.mv (hx x (by simp)).1 (hx x (by simp)).2 hk).2
    exact wZ hm (by omega)
   ·exact hm
 exact key l 0 h (Nat.two_pow_pos n)
include hn
theorem w4 {C:Nat} (hC:C<2 ^ n): ∀x∈e7 C 30,0<=x/\x<(n:Int):=by
 intro x hx
 obtain ⟨i,hi,hb,rfl⟩:=th.1 hx
 refine ⟨by omega,?_⟩
 rcases Nat.lt_or_ge i n with h | h
 ·omega
 ·rw[Nat.testBit_lt_two_pow (ay hC (Nat.pow_le_pow_right (by decide) h))] at hb;cases hb
theorem Ng {k:Nat} (hk:k<6) {l:List Int} (hl: ∀x∈l,0<=x/\x<n) (hlen:l.length<=30):ak (mK a (k:Int) l) aP (0,0)=some (.brk ((afL a k l:Int),(l.length:Int))):=by
 have:=aO (f:=mK a (k:Int) l) (fun i=>((afL a k (l.take i):Int),(i:Int))) l.length (fun i hi=>by
  unfold mK
  simp only
  have hx:=hl _ (bq (xs:=l) (i:=(i:Int)) (by omega) (by omega))
  rw[if_pos (by simp;omega),aq (by omega) (by omega)];simp only[aa]
  have e2:=Ls V (s:=nth l (i:Int)) (k:=k) hx.1 hx.2 (by omega)
  have e2:bH (a.1,a.2.1,a.2.2) (nth l (i:Int)) (k:Int)=_:=e2
  rw[e2,ae (by omega)];simp only[aa]
  have et:l.take (i+1)=l.take i++ [nth l (i:Int)]:=by rw[List.take_add_one,cf hi];simp[hi]
  have ef:afL a k (l.take (i+1))=if 0<=mv a (nth l (i:Int)) k then afL a k (l.take i) ||| 2 ^ (mv a (nth l (i:Int)) k).toNat else afL a k (l.take i):=by
   rw[et];unfold afL;rw[List.foldl_append];rfl
  have hlt:=VO V (k:=k) (by omega) (l:=l.take i) (fun x hx=>hl x (List.mem_of_mem_take hx))
  have hmv:=(V.mv (s:=nth l (i:Int)) (k:=k) hx.1 hx.2 (by omega)).2
  rw[ef]
  by_cases c:0<=mv a (nth l (i:Int)) k
  ·rw[if_pos (by simpa using c),if_pos c]
   obtain ⟨t,ht⟩: ∃t:Nat,mv a (nth l (i:Int)) k=(t:Int):=⟨_,(Int.toNat_of_nonneg c).symm⟩
   have e0:chk ((0:Int)<=mv a (nth l (i:Int)) k)=some ():=by unfold chk;rw[if_pos c]
   rw[e0,ht,ye (by omega),Ly (ay hlt (p62 (by omega))) (Nat.pow_lt_pow_right (by decide) (by omega))];rfl
  ·rw[if_neg (by simpa using c),if_neg c];rfl) (by unfold mK;simp) (mV (by omega))
 simpa [afL] using this
theorem Z7 {s v:Int} {k:Nat} (hs:0<=s/\s<n) (hv:0<=v/\v<=2) (hk:k<6):su a (xf 1 s) v (k:Int)=some (afL a k (e7 (cS a s v) 30):Int):=by
 obtain ⟨t,rfl⟩: ∃t:Nat,s=(t:Int):=⟨s.toNat,by omega⟩
 obtain ⟨e1,h1⟩:=H1 V hn hs hv
 have hC:cS a (t:Int) v<2 ^ 30:=ay h1 (Nat.pow_le_pow_right (by decide) (by omega))
 unfold su
 rw[ye (by omega),tj (Nat.pow_lt_pow_right (by decide) (by omega)),HY (by omega)];simp only[aa]
 have h0:iI a v (k:Int) [(t:Int)] (0,0)=some (.nxt ((afL a k (e7 (cS a (t:Int) v) 30):Int),1)):=by
  unfold iI
  simp only
  rw[if_pos (by simp),show aG [(t:Int)] 0=some (t:Int) from rfl];simp only[aa]
  have e1:j5 (a.1,a.2.1,a.2.2) (t:Int) v=_:=e1
  rw[e1];simp only[aa]
  rw[tj hC];simp only[aa]
  rw[Ng V hn hk (w4 V hn h1) (mR _ _)]
  rfl
 have h1': ∀m:Int,iI a v (k:Int) [(t:Int)] (m,1)=some (.brk (m,1)):=fun m=>by
  unfold iI;rw[if_neg (by simp)]
 have:=aO (f:=iI a v (k:Int) [(t:Int)]) (fun i=>if i=0 then (0,0) else ((afL a k (e7 (cS a (t:Int) v) 30):Int),1)) 1 (fun i hi=>by
  obtain rfl:i=0:=by omega
  exact h0) (h1' _) (by unfold aP;omega)
 have this:ak (iI a v (k:Int) [(t:Int)]) aP (0,0)=some (.brk ((afL a k (e7 (cS a (t:Int) v) 30):Int),1)):=this
 rw[this];rfl
end
end D
namespace D
open Go.RowKit
def rm {α:Type} (N:Nat) (F:Nat->α):List α:=(List.range N).map F
section
variable {α:Type} {N:Nat} {F G:Nat->α}
theorem BZ:(rm N F).length=N:=by simp[rm]
theorem nP (h: ∀z,z<N->F z=G z):rm N F=rm N G:=by
 unfold rm
 exact List.map_congr_left fun z hz=>h z (List.mem_range.1 hz)
theorem B0 {c:Nat} (h:c<N):aG (rm N F) (c:Int)=some (F c):=by
 rw[az (by rw[BZ];exact h)]
 simp[rm]
theorem QR {c:Nat} {v:α} :(rm N F).set c v=rm N fun z=>if z=c then v else F z:=by
 refine List.ext_getElem (by simp[rm]) fun i h1 h2=>?_
 simp only[rm,List.getElem_set,List.getElem_map,List.getElem_range]
 by_cases e:c=i
 ·subst e;simp
 ·rw[if_neg e,if_neg (fun h=>e h.symm)]
theorem vB {xs:List α} [Inhabited α] {k:Nat} (h:k<xs.length):xs.take (k+1)=xs.take k++ [nth xs (k:Int)]:=by
 rw[List.take_add_one,cf h];simp[h]
end
theorem VP {α:Type} {b n:Nat} {z:α} (h:n*b<=140737488355328):mkI b (n:Int) z=some (rm n fun _=>z):=by
 have:rm n (fun _=>z)=List.replicate n z:=by
  unfold rm;exact List.ext_getElem (by simp) fun i h1 h2=>by simp
 rw[this,uM h]
abbrev EdT:=Int×Int×Int×Int
abbrev ArT:=(Int×Bool)×Int×Int
def fwd (e:EdT):ArT:=((e.1,false),2*e.2.2.2,e.2.2.1)
def inv (e:EdT):ArT:=((e.1,true),2*e.2.2.2+1,e.2.1)
def VQ (e:EdT) (x:Int):List ArT:=(if e.2.1=x then [fwd e] else [])++(if e.2.2.1=x then [inv e] else [])
def lx (es:List EdT) (x:Nat):List ArT:=es.flatMap fun e=>VQ e x
theorem Uk (e:EdT) (x:Int):(VQ e x).length<=2:=by
 unfold VQ;rw[aC];split <;> split <;> simp
theorem tk {α β:Type} {f:α->List β} {B:Nat} : ∀ {xs:List α},(∀x∈xs,(f x).length<=B)->(xs.flatMap f).length<=B*xs.length
 | [],_=>by simp
 | x::xs,h=>by
  rw[List.flatMap_cons,aC,aK,Nat.mul_add]
  have:=h x (by simp)
  have:=tk (xs:=xs) fun y hy=>h y (by simp[hy])
  omega
theorem ub (es:List EdT) (x:Nat):(lx es x).length<=2*es.length:=tk fun e _=>Uk e x
theorem QS (e:EdT) (h:0<=e.2.2.2/\e.2.2.2<=2) (b:Bool):sq e b=some (if b then 2*e.2.2.2+1 else 2*e.2.2.2):=by
 unfold sq
 rw[b7 (n:=2*e.2.2.2) (by omega) (by omega),b7 (by omega) (by omega)]
 cases b <;> rfl
theorem Z8 {g:GrT} (G:GOk g):wg g=some (rm g.1.length (lx g.2)):=by
 unfold wg
 rw[VP (by have:=G.n5;omega)];simp only[aa]
 have:=aO (f:=oh g) (fun i=>((i:Int),rm g.1.length (lx (g.2.take i)))) g.2.length (fun i hi=>by
  unfold oh
  simp only
  have hm:=G.m
  obtain ⟨⟨a1,a2⟩,⟨b1,b2⟩,c1⟩:=G.edge _ (bq (xs:=g.2) (i:=(i:Int)) (by omega) (by omega))
  rw[if_pos (by simp;omega),aq (by omega) (by omega)];simp only[aa]
  generalize he:nth g.2 (i:Int)=e at a1 a2 b1 b2 c1
  obtain ⟨id,fr,to,lb⟩:=e
  obtain ⟨p,rfl⟩: ∃p:Nat,fr=(p:Int):=⟨fr.toNat,by simp only at a1;omega⟩
  obtain ⟨q,rfl⟩: ∃q:Nat,to=(q:Int):=⟨to.toNat,by simp only at b1;omega⟩
  simp only at a1 a2 b1 b2 c1
  have hp:p<g.1.length:=by omega
  have hq:q<g.1.length:=by omega
  have r1:=QS (id,(p:Int),(q:Int),lb) c1 false
  have r2:=QS (id,(p:Int),(q:Int),lb) c1 true
  have l1:=ub (g.2.take i) p
  have l2:=ub (g.2.take i) q
  have l3:(g.2.take i).length<=12:=by rw[aI];omega
  simp only[B0 hp,B0 hq,aa,r1,r2,Int.toNat_natCast,QR,Bool.false_eq_true,if_false,if_true]
  rw[aL (by simp;omega)];simp only[aa,QR]
  rw[kp (by rw[BZ];omega),kp trivial];simp only[aa]
  rw[aL (by split <;> simp <;> omega)];simp only[aa]
  rw[kp (by rw[BZ];omega)];simp only[aa]
  try rw[kp rfl];simp only[aa]
  rw[ae (by omega)]
  congr 3
  refine nP fun z hz=>?_
  rw[vB hi,he]
  unfold lx
  rw[List.flatMap_append]
  simp only[List.flatMap_cons,List.flatMap_nil,List.append_nil,VQ]
  by_cases e1:z=q
  ·subst e1
   by_cases e2:z=p
   ·subst e2;simp[fwd,inv]
   ·simp[e2,fwd,inv,show¬((p:Int)=(z:Int)) from by omega]
  ·by_cases e2:z=p
   ·subst e2;simp[e1,fwd,inv,show¬((q:Int)=(z:Int)) from by omega]
   ·simp[e1,e2,show¬((p:Int)=(z:Int)) from by omega,show¬((q:Int)=(z:Int)) from by omega]) (by unfold oh;simp) (mV (by have:=G.m;omega))
 have this:ak (oh g) aP (0,rm g.1.length fun _=>[])=_:=this
 rw[this,List.take_length];rfl
end D
namespace D
open Go.RowKit
def behind (a:AutT) (s v k:Int):List Int:=e7 (afL a k.toNat (e7 (cS a s v) 30)) 30
def nbA (g:GrT) (a:AutT) (x s:Nat) (y:ArT):List Int:=(behind a s (nth g.1 x) y.2.1).map fun t=>y.2.2*(a.2.1.length:Int)+t
def nbV (g:GrT) (a:AutT) (x s:Nat):List Int:=(lx g.2 x).flatMap (nbA g a x s)
def nbC (g:GrT) (a:AutT) (c:Nat):List Int:=nbV g a (c / a.2.1.length) (c % a.2.1.length)
theorem B1 {g:GrT} (G:GOk g) {x:Nat} {y:ArT} (h:y∈lx g.2 x):(0<=y.2.1/\y.2.1<6)/\0<=y.2.2/\y.2.2<g.1.length:=by
 obtain ⟨e,he,hy⟩:=List.mem_flatMap.1 h
 obtain ⟨h1,h2,h3⟩:=G.edge e he
 unfold VQ at hy
 rcases aH hy with hy | hy <;> split at hy
 ·obtain rfl:y=fwd e:=by simpa using hy
  exact ⟨⟨by simp[fwd];omega,by simp[fwd];omega⟩,h2⟩
 ·cases hy
 ·obtain rfl:y=inv e:=by simpa using hy
  exact ⟨⟨by simp[inv];omega,by simp[inv];omega⟩,h1⟩
 ·cases hy
section
variable {g:GrT} {a:AutT} (G:GOk g) (V:VA a a.2.1.length) (hn:a.2.1.length<=12)
include G V hn
theorem w5 {s v:Int} {k:Int} (hs:0<=s/\s<a.2.1.length) (hv:0<=v/\v<=2) (hk:0<=k/\k<6):(∀t∈behind a s v k,0<=t/\t<(a.2.1.length:Int))/\(behind a s v k).length<=30/\afL a k.toNat (e7 (cS a s v) 30)<2 ^ 30:=by
 have h1:=Uj V hn hs hv
 have h2:=VO V (k:=k.toNat) (by omega) (w4 V hn h1)
 exact ⟨w4 V hn h2,mR _ _,ay h2 (Nat.pow_le_pow_right (by decide) (by omega))⟩
theorem VR {x s:Nat} {y:ArT} (hx:x<g.1.length) (hs:s<a.2.1.length) (hy:y∈lx g.2 x): ∀z∈nbA g a x s y,0<=z/\z<((a.2.1.length*g.1.length:Nat):Int):=by
 intro z hz
 obtain ⟨t,ht,rfl⟩:=List.mem_map.1 hz
 obtain ⟨k1,k2,k3⟩:=B1 G hy
 have hv:=G.val _ (bq (xs:=g.1) (i:=(x:Int)) (by omega) (by omega))
 obtain ⟨t0,t1⟩:=(w5 G V hn (s:=(s:Int)) ⟨by omega,by omega⟩ hv k1).1 t ht
 obtain ⟨q,hq⟩: ∃q:Nat,y.2.2=(q:Int):=⟨y.2.2.toNat,by omega⟩
 obtain ⟨r,rfl⟩: ∃r:Nat,t=(r:Int):=⟨t.toNat,by omega⟩
 rw[hq] at k3⊢
 have:q*a.2.1.length+r<g.1.length*a.2.1.length:=by
  have:(q+1)*a.2.1.length<=g.1.length*a.2.1.length:=Nat.mul_le_mul_right _ (by omega)
  rw[Nat.add_mul] at this;omega
 rw[Nat.mul_comm a.2.1.length]
 constructor
 ·exact_mod_cast Nat.zero_le _
 ·exact_mod_cast this
theorem Z9 {x s:Nat} (hx:x<g.1.length) (hs:s<a.2.1.length): ∀z∈nbV g a x s,0<=z/\z<((a.2.1.length*g.1.length:Nat):Int):=by
 intro z hz
 obtain ⟨y,hy,hz⟩:=List.mem_flatMap.1 hz
 exact VR G V hn hx hs hy z hz
theorem QU {x s:Nat} {y:ArT} (hx:x<g.1.length) (hs:s<a.2.1.length) (hy:y∈lx g.2 x):(nbA g a x s y).length<=30:=by
 unfold nbA
 rw[List.length_map]
 exact mR _ _
end
section
variable {g:GrT} {a:AutT} {F:Nat->List Int} {N:Nat}
theorem abS {x s:Nat} {o1 o2:List (List Int)} {y:ArT} {T:List Int} (hc:x*a.2.1.length+s<N) (hN:N<=60) (hF:(F (x*a.2.1.length+s)).length<=10000) (hT:T.length<=30) (hy: ∀t∈T,0<=y.2.2*(a.2.1.length:Int)+t/\y.2.2*(a.2.1.length:Int)+t<60/\0<=t/\t<=60) :
  ak (di a ((x:Int),o1) ((s:Int),o2) y T) aP (0,rm N F)=some (.brk ((T.length:Int),rm N fun z=>if z=x*a.2.1.length+s then F z++T.map fun t=>y.2.2*(a.2.1.length:Int)+t else F z)):=by
 have ec:i64.wrap (i64.wrap ((x:Int)*(a.2.1.length:Int))+(s:Int))=((x*a.2.1.length+s:Nat):Int):=by
  have:((x:Int)*(a.2.1.length:Int))=((x*a.2.1.length:Nat):Int):=by simp
  rw[this,wS (by omega),b7 (by omega) (by omega)];rfl
 have:=aO (f:=di a ((x:Int),o1) ((s:Int),o2) y T) (fun j=>((j:Int),rm N fun z=>if z=x*a.2.1.length+s then F z++(T.take j).map fun t=>y.2.2*(a.2.1.length:Int)+t else F z)) T.length (fun j hj=>by
  unfold di
  simp only
  obtain ⟨y0,y1,t0,t1⟩:=hy _ (bq (xs:=T) (i:=(j:Int)) (by omega) (by omega))
  rw[if_pos (by simp;omega),aq (by omega) (by omega)];simp only[aa,ec,B0 hc,if_true]
  have ev:i64.wrap (i64.wrap (y.2.2*(a.2.1.length:Int))+nth T (j:Int))=y.2.2*(a.2.1.length:Int)+nth T (j:Int):=by
   rw[b7 (n:=y.2.2*(a.2.1.length:Int)) (by omega) (by omega),b7 (by omega) (by omega)]
  rw[ev,aL (by simp;omega)];simp only[aa,Int.toNat_natCast,QR]
  rw[kp (by rw[BZ];omega),kp trivial,ae (by omega)];simp only[aa]
  congr 3
  refine nP fun z hz=>?_
  by_cases e:z=x*a.2.1.length+s
  ·subst e
   rw[if_pos rfl,if_pos rfl,vB hj,aS,aA];rfl
  ·simp only[if_neg e]) (by unfold di;simp) (mV (by omega))
 rw[List.take_length] at this
 rw[<-this]
 congr 2
 refine nP fun z hz=>?_
 split <;> simp
end
section
variable {g:GrT} {a:AutT} (G:GOk g) (V:VA a a.2.1.length) (hn:a.2.1.length<=12)
include G V hn
theorem nN:a.2.1.length*g.1.length<=60:=by
 have:=Nat.mul_le_mul hn G.n5;omega
theorem cN {x s:Nat} (hx:x<g.1.length) (hs:s<a.2.1.length):x*a.2.1.length+s<a.2.1.length*g.1.length:=by
 have:(x+1)*a.2.1.length<=g.1.length*a.2.1.length:=Nat.mul_le_mul_right _ (by omega)
 rw[Nat.add_mul,Nat.mul_comm g.1.length] at this;omega
theorem abT {F:Nat->List Int} {x s:Nat} {o1 o2:List (List Int)} (hx:x<g.1.length) (hs:s<a.2.1.length) (hF:F (x*a.2.1.length+s)= []) :
  ak (dX g a ((x:Int),o1) (lx g.2 x) ((s:Int),o2)) aP (0,rm (a.2.1.length*g.1.length) F)=some (.brk (((lx g.2 x).length:Int),rm (a.2.1.length*g.1.length) fun z=>if z=x*a.2.1.length+s then nbV g a x s else F z)):=by
 have hl:=ub g.2 x
 have hm:=G.m
 have:=aO (f:=dX g a ((x:Int),o1) (lx g.2 x) ((s:Int),o2)) (fun j=>((j:Int),rm (a.2.1.length*g.1.length) fun z=>if z=x*a.2.1.length+s then ((lx g.2 x).take j).flatMap (nbA g a x s) else F z)) (lx g.2 x).length (fun j hj=>by
  unfold dX
  simp only
  have hy:=bq (xs:=lx g.2 x) (i:=(j:Int)) (by omega) (by omega)
  obtain ⟨k1,k2,k3⟩:=B1 G hy
  have hv:=G.val _ (bq (xs:=g.1) (i:=(x:Int)) (by omega) (by omega))
  obtain ⟨q1,q2,q3⟩:=w5 G V hn (s:=(s:Int)) (v:=nth g.1 (x:Int)) (k:=(nth (lx g.2 x) (j:Int)).2.1) ⟨by omega,by omega⟩ hv k1
  rw[if_pos (by simp;omega),aq (by omega) (by omega)];simp only[aa]
  rw[kp (by omega),aq (xs:=g.1) (by omega) (by omega)];simp only[aa]
  obtain ⟨k,hk⟩: ∃k:Nat,(nth (lx g.2 x) (j:Int)).2.1=(k:Int):=⟨_,(Int.toNat_of_nonneg k1.1).symm⟩
  have ea:=Z7 V hn (s:=(s:Int)) (v:=nth g.1 (x:Int)) (k:=k) ⟨by omega,by omega⟩ hv (by omega)
  have ea:su (a.1,a.2.1,a.2.2) (xf 1 (s:Int)) (nth g.1 (x:Int)) (k:Int)=_:=ea
  rw[hk,ea];simp only[aa]
  have ek:k=(nth (lx g.2 x) (j:Int)).2.1.toNat:=by rw[hk];rfl
  rw[ek,tj q3];simp only[aa]
  have hb:(((lx g.2 x).take j).flatMap (nbA g a x s)).length<=30*((lx g.2 x).take j).length:=tk fun y hy=>QU G V hn hx hs (List.mem_of_mem_take hy)
  have ht:((lx g.2 x).take j).length<=24:=by rw[aI];omega
  have h3:=abS (F:=fun z=>if z=x*a.2.1.length+s then ((lx g.2 x).take j).flatMap (nbA g a x s) else F z) (o1:=o1) (o2:=o2) (y:=nth (lx g.2 x) (j:Int)) (T:=behind a (s:Int) (nth g.1 (x:Int)) (nth (lx g.2 x) (j:Int)).2.1) (cN G V hn hx hs) (nN G V hn) (by simp only[if_true];omega) q2 (fun t ht=>by
   have h1:=VR G V hn hx hs hy _ (List.mem_map.2 ⟨t,ht,rfl⟩)
   have h2:=q1 t ht
   have:=nN G V hn
   omega)
  unfold behind at h3
  have h3:ak (di a ((x:Int),o1) ((s:Int),o2) (nth (lx g.2 x) (j:Int)) (e7 (afL a (nth (lx g.2 x) (j:Int)).2.1.toNat (e7 (cS a (s:Int) (nth g.1 (x:Int))) 30)) 30)) aP (0,rm (a.2.1.length*g.1.length) fun z=>if z=x*a.2.1.length+s then ((lx g.2 x).take j).flatMap (nbA g a x s) else F z)=_:=h3
  rw[ah h3,ae (by omega)]
  congr 3
  refine nP fun z hz=>?_
  by_cases e:z=x*a.2.1.length+s
  ·subst e
   rw[if_pos rfl,if_pos rfl,vB hj,List.flatMap_append]
   simp[nbA,behind]
  ·simp only[if_neg e]) (by unfold dX;simp) (mV (by omega))
 rw[List.take_length] at this
 rw[show nbV g a x s=(lx g.2 x).flatMap (nbA g a x s) from rfl,<-this]
 congr 2
 refine nP fun z hz=>?_
 split
 ·rename_i e;subst e;rw[hF];simp
 ·rfl
theorem aaa {x s:Nat} (hs:s<a.2.1.length):nbC g a (x*a.2.1.length+s)=nbV g a x s:=by
 unfold nbC
 rw[Nat.mul_comm,Nat.mul_add_div (by omega),Nat.mul_add_mod,Nat.div_eq_of_lt hs,Nat.mod_eq_of_lt hs,Nat.add_zero]
theorem abU {x:Nat} {o1:List (List Int)} (hx:x<g.1.length) :
  ak (dY g a ((x:Int),o1) (lx g.2 x)) aP (0,rm (a.2.1.length*g.1.length) fun z=>if z<x*a.2.1.length then nbC g a z else [])=some (.brk ((a.2.1.length:Int),rm (a.2.1.length*g.1.length) fun z=>if z<(x+1)*a.2.1.length then nbC g a z else [])):=by
 have:=aO (f:=dY g a ((x:Int),o1) (lx g.2 x)) (fun j=>((j:Int),rm (a.2.1.length*g.1.length) fun z=>if z<x*a.2.1.length+j then nbC g a z else [])) a.2.1.length (fun j hj=>by
  unfold dY
  simp only
  rw[if_pos (by simp;omega)]
  have h2:=abT G V hn (F:=fun z=>if z<x*a.2.1.length+j then nbC g a z else []) (o1:=o1) (o2:=rm (a.2.1.length*g.1.length) fun z=>if z<x*a.2.1.length+j then nbC g a z else []) hx hj (by simp)
  rw[ah h2,ae (by omega)]
  congr 3
  refine nP fun z hz=>?_
  by_cases e:z=x*a.2.1.length+j
  ·subst e
   rw[if_pos rfl,if_pos (by omega),aaa G V hn hj]
  ·rw[if_neg e]
   by_cases e2:z<x*a.2.1.length+j
   ·rw[if_pos e2,if_pos (by omega)]
   ·rw[if_neg e2,if_neg (by omega)]) (by unfold dY;simp) (mV (by omega))
 rw[Nat.add_mul,Nat.one_mul]
 exact this
theorem Yc:eJ g a=some (rm (a.2.1.length*g.1.length) (nbC g a)):=by
 have hN:=nN G V hn
 unfold eJ
 have ew:i64.wrap ((a.2.1.length:Int)*(g.1.length:Int))=((a.2.1.length*g.1.length:Nat):Int):=by
  rw[show ((a.2.1.length:Int)*(g.1.length:Int))=((a.2.1.length*g.1.length:Nat):Int) from by simp,wS (by omega)]
 have ea:=Z8 G
 have ea:wg (g.1,g.2)=_:=ea
 rw[ew,VP (by omega),ea];simp only[aa]
 have:=aO (f:=gk g a (rm g.1.length (lx g.2))) (fun j=>((j:Int),rm (a.2.1.length*g.1.length) fun z=>if z<j*a.2.1.length then nbC g a z else [])) g.1.length (fun j hj=>by
  unfold gk
  simp only
  rw[if_pos (by rw[BZ];simp;omega),B0 hj];simp only[aa]
  rw[ah (abU G V hn hj),ae (by have:=G.n5;omega)]) (by unfold gk;rw[BZ];simp) (mV (by have:=G.n5;omega))
 have e0:(rm (a.2.1.length*g.1.length) fun _=>([] :List Int))=rm (a.2.1.length*g.1.length) fun z=>if z<0*a.2.1.length then nbC g a z else []:=nP fun z hz=>by rw[if_neg (by omega)]
 rw[e0,show (0:Int)=((0:Nat):Int) from rfl,ah this]
 congr 1
 refine nP fun z hz=>?_
 rw[if_pos (by rw[Nat.mul_comm g.1.length];exact hz)]
end
end D
end Go.Proofs.YtfkokkokjgjkgaaGreatDoor
