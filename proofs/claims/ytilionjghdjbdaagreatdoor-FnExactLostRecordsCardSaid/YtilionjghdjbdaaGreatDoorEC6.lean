/- FnExactLostRecords: for every input the law returns true and changes nothing that was there. Part 7 of 8. -/
import Derived.Test.YtilionjghdjbdaaGreatDoorEC5
set_option linter.unusedVariables false
set_option linter.unusedSimpArgs false
set_option linter.unnecessarySimpa false
set_option linter.unusedSectionVars false
set_option maxRecDepth 1000000
namespace Go.Proofs.YtilionjghdjbdaaGreatDoor
namespace R
open Go.RowKit
open D
theorem NA:FOk Tryz.prog 344 F8:=fk [] trivial Tryz.func344 .no (tr:=[(302,274,u7)])
theorem uS: ∀n,FOk Tryz.prog 324 (mc n)
 | 0=>iN (f:=mc 0) (enters_of Tryz.func324 (by kernel_rfl) rfl) rfl (fun d=>rfl)
 | n+1=>by
  have ih:=uS n
  exact fk [(324,(mc n)),(344,F8)] ⟨ih,NA,trivial⟩ Tryz.func324 .no (tr:=[(302,274,u7)])
theorem pH: ∀n,FOk Tryz.prog 290 (ji n)
 | 0=>iN (f:=ji 0) (enters_of Tryz.func290 (by kernel_rfl) rfl) rfl (fun d=>rfl)
 | n+1=>by
  have ih:=pH n
  exact fk [(290,(ji n)),(324,(mc fu))] ⟨ih,(uS fu),trivial⟩ Tryz.func290 (.two .no (.two .no (.two .no (.two (.two .no (.loop [.slot 41 (.num .i64),.box 3 [(.num .i64),(.num .i64),(.num .i64),(.num .i64),(.own 274 (.tree 302 274 u7))]] .no)) .no)))) (an:=[(52,t274)]) (tr:=[(302,274,u7)])
theorem oG: ∀n,FOk Tryz.prog 325 (gX n)
 | 0=>iN (f:=gX 0) (enters_of Tryz.func325 (by kernel_rfl) rfl) rfl (fun d=>rfl)
 | n+1=>by
  have ih:=oG n
  exact fk [(325,(gX n))] ⟨ih,trivial⟩ Tryz.func325 (.two (.two .no (.loop [.slot 11 (.num .i64),.box 1 [(.own 161 u7)]] .no)) .no) (tr:=[(302,274,u7)])
theorem AW:FOk Tryz.prog 291 sw:=fk [(325,(gX fu))] ⟨(oG fu),trivial⟩ Tryz.func291 .no (tr:=[(302,274,u7)])
theorem yC:FOk Tryz.prog 256 qH:=fk [(258,qk),(288,px),(289,(j6 fu)),(290,(ji fu)),(291,sw)] ⟨tO,xx,(qM fu),(pH fu),AW,trivial⟩ Tryz.func256 .no (tr:=[(302,274,u7)])
theorem qu:FOk Tryz.prog 292 kE:=fk [] trivial Tryz.func292 (.two .no (.loop [.slot 12 (.num .i64),.par 3 [3] 3 y3] (.two .no (.two .no (.two (.at [.par 3 [3] 3 y3] .no) .no)))))
theorem lG: ∀n,FOk Tryz.prog 257 (fp n)
 | 0=>iN (f:=fp 0) (enters_of Tryz.func257 (by kernel_rfl) rfl) rfl (fun d=>rfl)
 | n+1=>by
  have ih:=lG n
  exact fk [(257,(fp n)),(292,kE)] ⟨ih,qu,trivial⟩ Tryz.func257 (.two .no (.two (.two .no (.two .no (.two .no (.two .no (.two .no (.two .no (.two .no (.two .no (.two (.two .no (.two .no (.two .no (.two (.two .no (.at [.box 10 [(.num .i64),(.num .i64),.boo]] .no)) (.two (.two .no (.at [.box 10 [(.num .i64),(.num .i64),.boo]] .no)) .no))))) .no))))))))) .no)) (tr:=[(302,274,u7)])
theorem sD:FOk Tryz.prog 217 me:=fk [(256,qH),(257,(fp fu)),(258,qk)] ⟨yC,(lG fu),tO,trivial⟩ Tryz.func217 (.two .no (.two .no (.two .no (.two .no (.two (.two .no (.loop [.slot 6 (.num .i64),.slot 22 (.num .i64)] (.two .no (.two .no (.two (.at [.slot 6 (.num .i64)] .no) .no))))) .no))))) (tr:=[(302,274,u7)])
theorem oH:FOk Tryz.prog 259 kA:=fk [] trivial Tryz.func259 (.two .no (.two .no (.two .no (.two .no (.two (.two .no (.loop [.slot 10 (.own 3 y3),.slot 11 (.map ⟨3,3,.int,.int⟩),.slot 13 (.num .i64),.box 12 [(.num .i64),(.own 4 y4),(.own 91 y91)]] (.two .no (.two (.two .no (.two (.two .no (.loop [.slot 10 (.own 3 y3),.slot 11 (.map ⟨3,3,.int,.int⟩),.slot 14 (.own 3 y3),.slot 15 (.num .i64)] (.two .no (.join [.slot 10 (.own 3 y3),.slot 11 (.map ⟨3,3,.int,.int⟩),.slot 14 (.own 3 y3)] (.two .no (.two .no (.two .no (.join [.slot 10 (.own 3 y3),.slot 11 (.map ⟨3,3,.int,.int⟩),.slot 18 (.num .i64)] .no .no)))) .no)))) .no)) .no)))) .no)))))
theorem pI:FOk Tryz.prog 260 kh:=fk [] trivial Tryz.func260 .no
theorem rv:FOk Tryz.prog 262 lz:=fk [] trivial Tryz.func262 (.two .no (.two .no (.join [.slot 7 (.num .i64)] .no (.two (.two .no (.loop [.slot 7 (.num .i64),.slot 21 (.num .i64)] (.two .no (.two .no (.join [.slot 7 (.num .i64)] .no .no))))) (.two .no (.two (.two .no (.loop [.slot 10 (.num .i64),.slot 39 (.num .i64)] (.two .no (.two .no (.join [.slot 10 (.num .i64)] .no .no))))) .no))))))
theorem tP:FOk Tryz.prog 261 mV:=fk [(262,lz)] ⟨rv,trivial⟩ Tryz.func261 .no
theorem xy:FOk Tryz.prog 218 py:=fk [(259,kA),(260,kh),(261,mV)] ⟨oH,pI,tP,trivial⟩ Tryz.func218 .no
theorem kQ:FOk Tryz.prog 345 bE:=CF (f:=bE) (iN (f:=⟨bE.ps,bE.rs,bE.m,none⟩) (enters_of Tryz.func345 (by kernel_rfl) rfl) rfl (fun d=>rfl)) (FW (V:=⟨tt,[],[(5,.raw)],8,[]⟩) Rg trivial mixed Tryz.func345 rfl rfl (enters_of Tryz.func345 (by kernel_rfl) rfl) (bh rfl) .no (fun E bn xs=>by cases bn <;> kernel_rfl))
theorem sE:FOk Tryz.prog 327 mf:=fk [(345,bE)] ⟨kQ,trivial⟩ Tryz.func327 (.two .no (.two .no (.two (.two .no (.loop [.slot 4 .boo,.row 3 4 y4] (.two .no (.two .no (.two .no (.loop [.slot 4 .boo,.slot 16 (.num .i64),.row 3 4 y4] (.two .no (.two .no (.two (.two .no (.two .no (.loop [.slot 4 .boo,.slot 23 (.num .i64),.row 3 4 y4] (.two .no (.two .no (.two (.at [.slot 4 .boo,.row 3 4 y4] .no) .no)))))) .no))))))))) .no)))
theorem iE:FOk Tryz.prog 346 dD:=fk [] trivial Tryz.func346 (.two .no (.two (.two .no (.loop [.slot 8 (.num .i64)] .no)) .no))
end R
namespace R
open Go.RowKit
open D
theorem oO:FOk Tryz.prog 347 jq:=fk [(107,cG)] ⟨dF,trivial⟩ Tryz.func347 .no
theorem qv:FOk Tryz.prog 328 kF:=fk [(346,dD),(347,jq)] ⟨iE,oO,trivial⟩ Tryz.func328 (.two .no (.two .no (.two .no (.two (.two .no (.loop [.slot 6 (.own 91 y91),.slot 7 (.own 3 y3),.slot 18 (.num .i64)] (.two .no (.two .no (.join [.slot 6 (.own 91 y91),.slot 7 (.own 3 y3)] (.two .no (.two .no (.two .no (.two (.two .no (.loop [.slot 36 (.num .i64),.box 10 [(.own 3 y3)]] (.two .no (.two .no (.two (.two .no (.join [.slot 12 (.num .i64)] .no .no)) .no))))) (.two .no (.join [.slot 6 (.own 91 y91),.slot 13 (.num .i64),.gone 10] .no .no)))))) .no))))) .no))))
theorem pJ:FOk Tryz.prog 295 kj:=fk [(327,mf),(328,kF)] ⟨sE,qv,trivial⟩ Tryz.func295 (.two .no (.two .no (.two (.two .no (.loop [.slot 3 (.own 3 y3),.slot 13 (.num .i64)] (.two .no (.two .no (.join [.slot 3 (.own 3 y3)] .no .no))))) (.two .no (.loop [.slot 3 (.own 3 y3),.slot 6 (.num .i64)] .no)))))
theorem ry:FOk Tryz.prog 354 lA:=fk [] trivial Tryz.func354 .no
theorem rz:FOk Tryz.prog 355 lB:=fk [] trivial Tryz.func355 .no
theorem tQ:FOk Tryz.prog 348 mW:=fk [(354,lA),(355,lB)] ⟨ry,rz,trivial⟩ Tryz.func348 .no
theorem lH:FOk Tryz.prog 329 gf:=fk [(348,mW)] ⟨tQ,trivial⟩ Tryz.func329 (.two .no (.two .no (.two .no (.two .no (.two .no (.two .no (.two (.loop [.slot 8 (.num .i64),.row 7 3 (.int .i64)] .no) .no))))))) (an:=[(44,.bool)])
theorem Es:FOk Tryz.prog 296 xc:=fk [(329,gf)] ⟨lH,trivial⟩ Tryz.func296 .no
theorem lP:FOk Tryz.prog 298 gC:=fk [] trivial Tryz.func298 (.two .no (.two (.two .no (.loop [.slot 8 (.num .i64)] .no)) .no))
theorem ng:FOk Tryz.prog 297 ix:=fk [(298,gC)] ⟨lP,trivial⟩ Tryz.func297 .no
theorem nh:FOk Tryz.prog 299 iy:=fk [] trivial Tryz.func299 .no
theorem sF:FOk Tryz.prog 301 mg:=fk [(326,pw)] ⟨uR,trivial⟩ Tryz.func301 .no
theorem ni:FOk Tryz.prog 300 iz:=fk [(301,mg)] ⟨sF,trivial⟩ Tryz.func300 .no
theorem oP:FOk Tryz.prog 263 jr:=fk [(259,kA),(295,kj),(296,xc),(297,ix),(299,iy),(300,iz)] ⟨oH,pJ,Es,ng,nh,ni,trivial⟩ Tryz.func263 .no
theorem Ki:FOk Tryz.prog 219 CI:=fk [(263,jr)] ⟨oP,trivial⟩ Tryz.func219 .no
theorem xz:FOk Tryz.prog 162 pz:=fk [(217,me),(218,py),(219,CI)] ⟨sD,xy,Ki,trivial⟩ Tryz.func162 .no
theorem fB:FOk Tryz.prog 163 cF:=fk [] trivial Tryz.func163 (.two .no (.two (.two .no (.loop [.slot 8 (.num .i64)] .no)) .no))
end R
namespace R
open Go.RowKit
open D
theorem kR:FOk Tryz.prog 220 fJ:=fk [] trivial Tryz.func220 (.two .no (.two .no (.two (.two .no (.loop [.slot 13 (.num .i64)] .no)) .no)))
theorem dS:FOk Tryz.prog 221 bY:=fk [] trivial Tryz.func221 (.two .no (.two .no (.two (.two .no (.loop [.slot 17 (.num .i64)] .no)) .no)))
theorem rA:FOk Tryz.prog 222 lC:=fk [(107,cG)] ⟨dF,trivial⟩ Tryz.func222 .no
theorem nj:FOk Tryz.prog 165 jF:=fk [(220,fJ),(221,bY),(222,lC)] ⟨kR,dS,rA,trivial⟩ Tryz.func165 .no
theorem CT:FOk Tryz.prog 164 uH:=fk [(165,jF)] ⟨nj,trivial⟩ Tryz.func164 .no
theorem CU:FOk Tryz.prog 166 uI:=fk [] trivial Tryz.func166 .no
theorem Hv:FOk Tryz.prog 108 zE:=fk [(53,fD),(162,pz),(163,cF),(164,uH),(166,uI)] ⟨gA,xz,fB,CT,CU,trivial⟩ Tryz.func108 (.two .no (.two .no (.two (.two .no (.loop [.slot 13 (.num .i64),.box 4 [(.own 189 l8),(.own 137 Dk)]] (.two .no (.two .no (.two (.two .no (.two .no (.two .no (.two .no (.join [.slot 9 (.num .i64),.box 4 [(.own 189 l8),(.own 137 Dk)],.gone 7] .no .no))))) .no))))) .no)))
theorem cy:FOk Tryz.prog 167 bw:=fk [] trivial Tryz.func167 (.two .no (.two .no (.two (.two .no (.loop [.slot 17 (.num .i64)] .no)) .no)))
theorem cf:FOk Tryz.prog 168 bq:=fk [] trivial Tryz.func168 (.two .no (.two .no (.two (.two .no (.loop [.slot 17 (.num .i64)] .no)) .no)))
theorem km:FOk Tryz.prog 264 eY:=fk [] trivial Tryz.func264 (.two .no (.two .no (.two (.two .no (.loop [.slot 13 (.num .i64)] .no)) .no)))
theorem yD:FOk Tryz.prog 223 qI:=fk [(264,eY)] ⟨km,trivial⟩ Tryz.func223 .no
theorem vl:FOk Tryz.prog 169 ox:=fk [(223,qI)] ⟨yD,trivial⟩ Tryz.func169 .no
theorem rB:FOk Tryz.prog 109 lD:=fk [(165,jF),(167,bw),(168,bq),(169,ox)] ⟨nj,cy,cf,vl,trivial⟩ Tryz.func109 .no
theorem rC:FOk Tryz.prog 51 lE:=fk [(108,zE),(109,lD)] ⟨Hv,rB,trivial⟩ Tryz.func51 .no
theorem tR:FOk Tryz.prog 52 mX:=fk [(50,jh)] ⟨mj,trivial⟩ Tryz.func52 .no
theorem eU:FOk Tryz.prog 110 cx:=fk [] trivial Tryz.func110 (.two .no (.two (.two .no (.loop [.slot 8 (.num .i64)] .no)) .no))
theorem xA:FOk Tryz.prog 111 pA:=fk [] trivial Tryz.func111 .no
end R
namespace R
open Go.RowKit
open D
theorem AX:FOk Tryz.prog 54 sx:=fk [(110,cx),(111,pA)] ⟨eU,xA,trivial⟩ Tryz.func54 .no
theorem pK:FOk Tryz.prog 112 kl:=AM AO (enters_of Tryz.func112 (by kernel_rfl) rfl)
theorem vm:FOk Tryz.prog 195 oy:=Nw FZ (enters_of Tryz.func195 (by kernel_rfl) rfl)
theorem sG:FOk Tryz.prog 131 nW:=fk [(195,oy)] ⟨vm,trivial⟩ Tryz.func131 .no
theorem qN:FOk Tryz.prog 193 mB:=fk [(131,nW),(161,tH)] ⟨sG,zL,trivial⟩ Tryz.func193 .no
theorem vn:FOk Tryz.prog 194 oz:=Nx Ny Kg 9 (enters_of Tryz.func194 (by kernel_rfl) rfl)
theorem pL:FOk Tryz.prog 130 lF:=fk [(193,mB),(194,oz)] ⟨qN,vn,trivial⟩ Tryz.func130 (.two .no (.two .no (.two .no (.two (.two .no (.loop [.slot 3 (.own 9 y9),.slot 15 (.num .i64)] (.two .no (.two .no (.two (.atX [.slot 3 (.own 9 y9)] .no) .no))))) .no))))
theorem CV:FOk Tryz.prog 132 uJ:=fk [] trivial Tryz.func132 (.two .no (.two .no (.two (.two .no (.loop [.slot 3 (.num .i64),.slot 4 (.num .i64)] .no)) .no)))
theorem vo:FOk Tryz.prog 73 oA:=fk [(53,fD),(130,lF),(131,nW),(132,uJ)] ⟨gA,pL,sG,CV,trivial⟩ Tryz.func73 .no
theorem nk:FOk Tryz.prog 171 jG:=Kc Kf (by kernel_rfl) (by kernel_rfl) (enters_of Tryz.func171 (by kernel_rfl) rfl)
theorem xB (n a b:Int) (w:World):Calls Tryz.prog 53 #[.int .i64 n,.int .i64 a,.int .i64 b] w fun e w'=>e= .returned (.bool (decide (a<=n/\n<=b)))/\w'=w:=by
 by_cases h:a<=n
 ·go_enter Tryz.func53,Tryz.ntmps53
  go_wp2
  go_ret
  simp[h]
 ·go_enter Tryz.func53,Tryz.ntmps53
  go_wp2
  go_ret
  simp
  try (intro k;omega)
theorem Et (s:ByteArray) (r:Int×Bool) (w:World) (hr:pa s=some r) (hL:LayW Tryz.prog w):Calls Tryz.prog 172 #[.string s] w fun e w'=>e= .returned (.tuple #[.int .i64 r.1,.bool r.2])/\Below w.heap.size w w':=by
 unfold pa at hr
 by_cases h10:10<s.size
 ·rw[if_pos h10] at hr
  obtain rfl:=ae hr
  go_enter Tryz.func172,Tryz.ntmps172
  go_wp2
  go_ret2
  exact ⟨rfl,Below.refl _ _⟩
 ·rw[if_neg h10] at hr
  have h18:s.size<=18:=by omega
  cases ha:Lib.atoi s.data.toList with
  | none =>
   rw[ha] at hr
   obtain rfl:=ae hr
   obtain ⟨tp,p,hv⟩:=hL.syn
   have hcon:=Any.strconv_Atoi_err_var F5 s h18 ha tp p w hv
   go_enter Tryz.func172,Tryz.ntmps172
   go_wp2_with (go_at_call 226;refine hcon.mono ?_;rintro e w' ⟨N,rfl,hN,hh,hb⟩)
   go_ret2
   exact ⟨rfl,hb⟩
  | some n =>
   rw[ha] at hr
   have hB:=Lib.atoi_bound ha (by simpa using h18)
   have hA:=Any.strconv_Atoi { F5 with } s n h18 ha w
   have hI:=fun t=>Any.strconv_Itoa FZ n (by omega) (by omega) (Lib.bytesWorld w 5 t) (Lib.bytesWorld_var w 5 t hL.tab)
   have hz: ∀t k os,Below w.heap.size w (Go.Sort.grow ((Lib.bytesWorld w 5 t).drewN k) os):=fun t k os=>by
    have h1:=Lib.bytesWorld_below w 5 t
    exact ⟨h1.os,h1.tape,h1.output,by have:=h1.size;simp only[Go.Sort.grow,Array.size_append];exact Nat.le_trans this (Nat.le_add_right _ _),fun b hb=>(Go.Sort.heap_grow_old ((Lib.bytesWorld w 5 t).drewN k) os (aI hb h1.size:b<((Lib.bytesWorld w 5 t).drewN k).heap.size)).trans (h1.block b hb)⟩
   replace hr:(if (⟨(Lib.itoa n).toArray⟩:ByteArray)=s/\ -999999999<=n/\n<=999999999 then some (n,true) else some (0,false))=some r:=hr
   generalize (⟨(Lib.itoa n).toArray⟩:ByteArray)=q at hr hI
   by_cases e1:q=s
   ·subst e1
    by_cases e2: -999999999<=n/\n<=999999999
    ·rw[if_pos ⟨rfl,e2.1,e2.2⟩] at hr
     obtain rfl:=ae hr
     go_enter Tryz.func172,Tryz.ntmps172
     go_wp2_with (first | (go_at_call 226;refine hA.mono ?_;rintro e w' ⟨rfl,t,rfl⟩) | (go_at_call 195;refine (hI _).mono ?_;rintro e w' ⟨rfl,k,os,rfl⟩) | (go_at_call 53;refine (xB _ _ _ _).mono ?_;rintro e w' ⟨rfl,rfl⟩))
     go_ret2
     exact ⟨rfl,hz _ _ _⟩
    ·rw[if_neg fun k=>e2 k.2] at hr
     obtain rfl:=ae hr
     go_enter Tryz.func172,Tryz.ntmps172
     go_wp2_with (first | (go_at_call 226;refine hA.mono ?_;rintro e w' ⟨rfl,t,rfl⟩) | (go_at_call 195;refine (hI _).mono ?_;rintro e w' ⟨rfl,k,os,rfl⟩) | (go_at_call 53;refine (xB _ _ _ _).mono ?_;rintro e w' ⟨rfl,rfl⟩))
     go_ret2
     exact ⟨rfl,hz _ _ _⟩
   ·rw[if_neg fun k=>e1 k.1] at hr
    obtain rfl:=ae hr
    have e2: ¬q.toList=s.toList:=fun k=>e1 (Go.WideShapes.bytes_inj (by rw[<-ByteArray.toList_eq,<-ByteArray.toList_eq];exact k))
    go_enter Tryz.func172,Tryz.ntmps172
    go_wp2_with (first | (go_at_call 226;refine hA.mono ?_;rintro e w' ⟨rfl,t,rfl⟩) | (go_at_call 195;refine (hI _).mono ?_;rintro e w' ⟨rfl,k,os,rfl⟩) | (go_at_call 53;refine (xB _ _ _ _).mono ?_;rintro e w' ⟨rfl,rfl⟩))
    go_ret2
    exact ⟨rfl,hz _ _ _⟩
theorem uT:FOk Tryz.prog 172 pB:=Ke (enters_of Tryz.func172 (by kernel_rfl) rfl) Et
theorem xC:FOk Tryz.prog 270 pC:=Rd Rf (by kernel_rfl) (enters_of Tryz.func270 (by kernel_rfl) rfl)
theorem AY:FOk Tryz.prog 227 sy:=fk [(172,pB),(193,mB),(270,pC)] ⟨uT,qN,xC,trivial⟩ Tryz.func227 .no
theorem yE:FOk Tryz.prog 173 qJ:=fk [(130,lF),(171,jG),(227,sy)] ⟨pL,nk,AY,trivial⟩ Tryz.func173 (.two .no (.two .no (.two .no (.two (.two .no (.loop [.slot 16 (.num .i64),.box 4 [(.own 170 (.prod y4 Ed))]] .no)) .no))))
theorem vp:FOk Tryz.prog 113 oB:=fk [(73,oA),(171,jG),(172,pB),(173,qJ)] ⟨vo,nk,uT,yE,trivial⟩ Tryz.func113 .no
theorem xD:FOk Tryz.prog 55 rp:=FY (ps:=[.rd y9]) (A:=y91) (E:=73) (t:=y73) (B:=y3) (m:=m_i_ScanLog) (fk [(112,kl),(113,oB)] ⟨pK,vp,trivial⟩ Tryz.func55 (.two .no (.two .no (.two .no (.two .no (.two (.loop [.slot 5 (.own 3 y3),.slot 6 (.own 73 y73),.slot 7 (.num .i64)] .no) .no))))))
theorem tS:FOk Tryz.prog 14 mY:=fk [(50,jh),(51,lE),(52,mX),(53,fD),(54,sx),(55,rp)] ⟨mj,rC,tR,gA,AX,xD,trivial⟩ Tryz.func14 (.two .no (.two .no (.two .no (.two (.two .no (.loop [.slot 37 (.num .i64)] .no)) .no))))
end R
namespace R
open Go.RowKit
open D
theorem zM:FOk Tryz.prog 228 tI:=fk [] trivial Tryz.func228 (.two .no (.two .no (.two (.two .no (.loop [.slot 5 (.num .i64)] .no)) .no)))
theorem Hw:FOk Tryz.prog 205 zF:=fk [] trivial Tryz.func205 .no
theorem Eu:FOk Tryz.prog 229 xd:=fk [(205,zF)] ⟨Hw,trivial⟩ Tryz.func229 (.two .no (.two .no (.two (.two .no (.loop [.slot 5 (.num .i64)] .no)) .no)))
theorem Ev:FOk Tryz.prog 174 xe:=fk [(228,tI),(229,xd)] ⟨zM,Eu,trivial⟩ Tryz.func174 .no
theorem CW:FOk Tryz.prog 114 uK:=fk [(174,xe)] ⟨Ev,trivial⟩ Tryz.func114 (.two .no (.two .no (.two (.two .no (.loop [.slot 5 (.num .i64)] .no)) .no)))
theorem AZ:FOk Tryz.prog 56 sA:=fk [(114,uK)] ⟨CW,trivial⟩ Tryz.func56 .no
theorem Ew:FOk Tryz.prog 230 xf:=fk [] trivial Tryz.func230 (.two .no (.two .no (.two (.two .no (.loop [.slot 5 (.num .i64)] .no)) .no)))
theorem Ex:FOk Tryz.prog 231 xg:=fk [(228,tI)] ⟨zM,trivial⟩ Tryz.func231 (.two .no (.two .no (.two (.two .no (.loop [.slot 5 (.num .i64)] .no)) .no)))
theorem xE:FOk Tryz.prog 175 pD:=fk [(230,xf),(231,xg)] ⟨Ew,Ex,trivial⟩ Tryz.func175 .no
theorem vq:FOk Tryz.prog 115 oC:=fk [(175,pD)] ⟨xE,trivial⟩ Tryz.func115 (.two .no (.two .no (.two (.two .no (.loop [.slot 5 (.num .i64)] .no)) .no)))
theorem Ey:FOk Tryz.prog 141 xh:=fk [] trivial Tryz.func141 .no
theorem CX:FOk Tryz.prog 86 uL:=fk [(141,xh)] ⟨Ey,trivial⟩ Tryz.func86 (.two .no (.two .no (.two (.two .no (.loop [.slot 5 (.num .i64)] .no)) .no)))
theorem Hx:FOk Tryz.prog 32 zG:=fk [(86,uL)] ⟨CX,trivial⟩ Tryz.func32 .no
theorem vr:FOk Tryz.prog 176 oD:=fk [(32,zG)] ⟨Hx,trivial⟩ Tryz.func176 .no
theorem tT:FOk Tryz.prog 116 mZ:=fk [(176,oD)] ⟨vr,trivial⟩ Tryz.func116 (.two .no (.two .no (.two (.two .no (.loop [.slot 5 (.num .i64)] .no)) .no)))
theorem yF:FOk Tryz.prog 57 qK:=fk [(115,oC),(116,mZ)] ⟨vq,tT,trivial⟩ Tryz.func57 .no
theorem vt:FOk Tryz.prog 117 oE:=fk [] trivial Tryz.func117 .no
end R
namespace R
open Go.RowKit
open D
theorem tU:FOk Tryz.prog 58 na:=fk [(117,oE)] ⟨vt,trivial⟩ Tryz.func58 (.two .no (.two .no (.two (.two .no (.loop [.slot 5 (.num .i64)] .no)) .no)))
theorem CY:FOk Tryz.prog 15 uM:=fk [(56,sA),(57,qK),(58,na)] ⟨AZ,yF,tU,trivial⟩ Tryz.func15 .no
theorem xF:FOk Tryz.prog 16 pE:=fk [(12,mS),(59,jf),(60,rm)] ⟨tL,j7,xu,trivial⟩ Tryz.func16 .no
theorem xG:FOk Tryz.prog 17 pF:=fk [(14,mY),(53,fD),(55,rp)] ⟨tS,gA,xD,trivial⟩ Tryz.func17 .no
theorem oQ:FOk Tryz.prog 4 oN:=fk [(11,uz),(13,uG),(15,uM),(16,pE),(17,pF)] ⟨CL,CS,CY,xF,xG,trivial⟩ Tryz.func4 .no
end R
namespace R
open Go.RowKit
open D
end R
namespace R
open Go.RowKit
open D
end R
namespace R
open Go.RowKit
open D
end R
namespace R
open Go.RowKit
open D
end R
namespace R
open Go.RowKit
open D
end R
namespace R
open Go.RowKit
open D
end R
namespace D
open Go.RowKit
end D
namespace D
open Go.RowKit
theorem oR (x0:F6×Yq6×(List Yq8)×ByteArray) (x1:Int) (r:Bool) (hm:dC x0 x1=some r) {I:Hp} {w0:World} (v0_0:Value) (v0_1:Value) (v0_2:Value) (v0_3:Value) (r0_0:(af 179 (aE (af 3 a8) (af 172 (aE a8 (aE a8 (aE a8 a8)))))).rd I [v0_0] x0.1.2) (r0_1:(af 184 (aE a8 (aE (af 4 lO) (af 91 (af 3 a8))))).rd I [v0_1] x0.2.1.1) (r0_2:(af 187 (aE a8 (aE (af 163 (aE a8 (aE a8 (aE a8 a8)))) a8))).rd I [v0_2] x0.2.1.2) (r0_3:(af 133 (aE a8 (aE a8 a8))).rd I [v0_3] x0.2.2.1) (hL:Lay Tryz.prog I):Con Tryz.prog 4 #[.agg #[.int .i64 x0.1.1,v0_0,v0_1,v0_2,v0_3,.string x0.2.2.2],.int .i64 x1] I w0 [] (fun v=>v= .bool r) (fun _=>[]):=fun w C hs =>
 ((R.oQ).con w0 I [.agg #[.int .i64 x0.1.1,v0_0,v0_1,v0_2,v0_3,.string x0.2.2.2],.int .i64 x1] (x0,(x1,())) r hL ⟨_,_,rfl,⟨[.int .i64 x0.1.1,v0_0,v0_1,v0_2,v0_3,.string x0.2.2.2],rfl,⟨_,_,rfl,⟨_,_,rfl,rfl,r0_0⟩,⟨_,_,rfl,⟨_,_,rfl,r0_1,r0_2⟩,⟨_,_,rfl,r0_3,rfl⟩⟩⟩⟩,⟨_,_,rfl,⟨[.int .i64 x1],rfl,rfl⟩,rfl⟩⟩ hm w C hs).mono fun e w' ⟨v,he,_,hst⟩=>by
  obtain ⟨h1,h2⟩:=R.rV (h1:=fun _=>rfl) (show St I w0 w' (Ch.own R.Ty.bool.rep [v] r::C) from hst)
  exact ⟨v,he,(List.cons.inj h1).1,h2⟩
end D
namespace D
open Go.RowKit
end D
namespace D
open Go.RowKit
end D
namespace D
open Go.RowKit
end D
namespace D
open Go.RowKit
end D
namespace D
open Go.RowKit
end D
namespace D
open Go.RowKit
end D
namespace D
open Go.RowKit
def I64 (n:Int):Prop:= -9223372036854775808<=n/\n<=9223372036854775807
class Data (α:Type) where
 lim:α->Prop
 sm:α->Prop
instance:Data Int:=⟨I64,fun _=>True⟩
instance:Data Bool:=⟨fun _=>True,fun _=>True⟩
instance:Data ByteArray:=⟨fun s=>s.size<=9223372036854775807,fun s=>s.size<=1048576⟩
instance {α β:Type} [Data α] [Data β] :Data (α×β):=⟨fun x=>Data.lim x.1/\Data.lim x.2,fun x=>Data.sm x.1/\Data.sm x.2⟩
instance {α:Type} [Data α] :Data (List α):=⟨fun xs=>xs.length<=9223372036854775807/\ ∀x,x∈xs->Data.lim x,fun xs=>xs.length<=1048576/\ ∀x,x∈xs->Data.sm x⟩
structure Opens (P:Program) (t:TypeId) {α:Type} [Data α] (R:Rep α):Prop where
 out: ∀ {H:Type} (enc:TypeId×Value->H) (w:World) (fuel:Nat) (cs:List Value) (x:DataW H×List MemPlace),DataW.trod enc P w 0 (fun _=>true) true fuel t cs=some x-> ∃a:α,R.rd (hp w) cs a/\Data.lim a
theorem Kj {P:Program} {t:TypeId} (h:P.underlying t=some (.int .i64)):Opens P t a8:=by
 constructor
 intro H enc w fuel cs x hx
 obtain ⟨n,rfl,-,hw⟩:=DataW.trod_int h hx
 refine ⟨n,rfl,show I64 n from ?_⟩
 simp[Lit.wf,IntKind.min,IntKind.max,IntKind.signed,IntKind.bits] at hw
 unfold I64
 omega
theorem Hy {P:Program} {t:TypeId} (h:P.underlying t=some .bool):Opens P t lO:=by
 constructor
 intro H enc w fuel cs x hx
 obtain ⟨n,rfl,-⟩:=DataW.trod_bool h hx
 exact ⟨n,rfl,trivial⟩
theorem CZ {P:Program} {t:TypeId} (h:P.underlying t=some .string):Opens P t zT:=by
 constructor
 intro H enc w fuel cs x hx
 obtain ⟨n,rfl,-,hm⟩:=DataW.trod_string h hx
 exact ⟨n,rfl,show n.size<=_ by unfold maxLen at hm;omega⟩
theorem fq {P:Program} {t e:TypeId} {α:Type} [Data α] {R:Rep α} {E:TypeId} (h:P.underlying t=some (.slice e)) (hc:P.cellsOf e=R.size) (h0:0<R.size) (he:Opens P e R):Opens P t (af E R):=by
 constructor
 intro H enc w fuel cs x hx
 rcases Go.Deep.open_slice h hx with ⟨rfl,-⟩ | ⟨a,len,cap,m,n,D,Pl,rfl,-,hl,hm,hmm,-,hel⟩
 ·exact ⟨[],⟨none,0,rfl,by simp,.inl rfl⟩,Nat.zero_le _,fun x hx=>by cases hx⟩
 have hlm:m=cap:=by simpa using hmm
 subst hlm
 rw[hc] at hel
 by_cases hz:len=0
 ·subst hz
  exact ⟨[],⟨some a,m,rfl,by simp,.inl rfl⟩,Nat.zero_le _,fun x hx=>by cases hx⟩
 ·have hone: ∀i,i<len-> ∃c:List Value,∃y:α,c.length=R.size/\(∀j,j<R.size->w.cell? ((a.add (i*R.size)).add j)=c[j]?)/\R.rd (hp w) c y/\Data.lim y:=by
   intro i hi
   obtain ⟨c,h1,h2⟩:=hel i (by omega)
   obtain ⟨-,h3,h4⟩:=World.cells?_some h1
   obtain ⟨y,hy⟩:=he.out enc w _ _ _ h2
   exact ⟨c,y,h3,h4,hy⟩
  obtain ⟨c0,y0,hc0,hr0,-⟩:=hone 0 (by omega)
  have h00:=hr0 0 h0
  have hsome: ∃v,c0[0]? =some v:=⟨_,List.getElem?_eq_getElem (by omega)⟩
  obtain ⟨v,hv⟩:=hsome
  rw[hv] at h00
  have ha:(a.add (0*R.size)).add 0=a:=by simp[Addr.add]
  rw[ha] at h00
  obtain ⟨b,off,spot⟩:=a
  have hb: ∃ccs T fr,w.heap[b]? =some (.cells ccs T fr)/\spot=none:=by
   simp only[World.cell?] at h00
   split at h00
   ·rename_i ccs T fr heq
    cases spot with
    | none=>exact ⟨ccs,T,fr,heq,rfl⟩
    | some s=>simp at h00
   ·simp at h00
  obtain ⟨ccs,T,fr,hh,rfl⟩:=hb
  have hadd: ∀i j,(Addr.add ⟨b,off,none⟩ i).add j=⟨b,off+i+j,none⟩:=by
   intro i j
   by_cases h1:i=0 <;> by_cases h2:j=0 <;> simp[Addr.add,h1,h2,Nat.add_assoc]
  haveI:Inhabited α:=⟨y0⟩
  obtain ⟨X,hX⟩:=Go.Deep.choose_lt (α:=α) (n:=len) (p:=fun i y=> ∃c:List Value,c.length=R.size/\(∀j,j<R.size->ccs.toList[off+i*R.size+j]? =c[j]?)/\R.rd (hp w) c y/\Data.lim y) (fun i hi=>by
   obtain ⟨c,y,h1,h2,h3⟩:=hone i hi
   refine ⟨y,c,h1,fun j hj=>?_,h3⟩
   have:=h2 j hj
   rw[hadd] at this
   simp only[World.cell?,hh] at this
   simpa using this)
  have hlen:((List.range len).map X).length=len:=by simp
  have hel2: ∀i y,((List.range len).map X)[i]? =some y->i<len/\y=X i:=fun i y hy=>by
   have hi:i<len:=by have:=(List.getElem?_eq_some_iff.1 hy).1;omega
   exact ⟨hi,by simpa [hi] using hy.symm⟩
  refine ⟨(List.range len).map X,⟨some ⟨b,off,none⟩,m,by rw[hlen],by rw[hlen];unfold maxLen at hm;unfold lim;omega,.inr ⟨b,off,ccs,T,fr,rfl,hh,fun i y hy=>?_⟩⟩,by rw[hlen];unfold maxLen at hm;omega,fun y hy=>?_⟩
  ·obtain ⟨hi,rfl⟩:=hel2 i y hy
   obtain ⟨c,e1,e2,e3,-⟩:=hX i hi
   exact ⟨c,e1,e2,e3⟩
  ·obtain ⟨i,hi,he⟩:=List.mem_iff_getElem?.1 hy |>.imp fun i hi=>hel2 i y hi
   obtain ⟨-,-,-,-,e4⟩:=hX i hi
   rw[he];exact e4
structure OpensFs (P:Program) (fs:List Field) (o:Nat) {α:Type} [Data α] (R:Rep α):Prop where
 out: ∀ {H:Type} (enc:TypeId×Value->H) (w:World) (fuel:Nat) (cs:List Value),cs.length=o+R.size->
  (∀f∈fs,∃x,DataW.trod enc P w 0 (fun _=>true) true fuel f.type ((cs.drop f.offset).take (P.cellsOf f.type))=some x)-> ∃a:α,R.rd (hp w) (cs.drop o) a/\Data.lim a
theorem fE {P:Program} {f:Field} {o:Nat} {α:Type} [Data α] {R:Rep α} (ho:f.offset=o) (hc:P.cellsOf f.type=R.size) (h:Opens P f.type R):OpensFs P [f] o R:=by
 constructor
 intro H enc w fuel cs hl hx
 obtain ⟨x,hx⟩:=hx f (by simp)
 rw[ho,hc,List.take_of_length_le (by rw[aS];omega)] at hx
 exact h.out enc w _ _ _ hx
theorem bZ {P:Program} {f:Field} {fs:List Field} {o:Nat} {α β:Type} [Data α] [Data β] {R:Rep α} {S:Rep β} (ho:f.offset=o) (hc:P.cellsOf f.type=R.size) (h:Opens P f.type R) (hs:OpensFs P fs (o+R.size) S):OpensFs P (f::fs) o (aE R S):=by
 constructor
 intro H enc w fuel cs hl hx
 have hl':cs.length=o+(R.size+S.size):=hl
 obtain ⟨b,hb,hlb⟩:=hs.out enc w fuel cs (by omega) (fun g hg=>hx g (by simp[hg]))
 obtain ⟨x,hx⟩:=hx f (by simp)
 rw[ho,hc] at hx
 obtain ⟨a,ha,hla⟩:=h.out enc w _ _ _ hx
 refine ⟨(a,b),⟨(cs.drop o).take R.size,cs.drop (o+R.size),?_,ha,hb⟩,hla,hlb⟩
 rw[<-List.drop_drop,List.take_append_drop]
theorem dm {P:Program} {t:TypeId} {fs:Array Field} {α:Type} [Data α] {R:Rep α} (h:P.underlying t=some (.struct fs)) (hc:P.cellsOf t=R.size) (hf:OpensFs P fs.toList 0 R):Opens P t R:=by
 constructor
 intro H enc w fuel cs x hx
 obtain ⟨xs,n,-,-,hl,hn,hel⟩:=DataW.trod_struct h hx
 have:=hf.out enc w n cs (by omega) (fun f hm=>by
  obtain ⟨i,hi,rfl⟩:=List.getElem_of_mem hm
  have h1:fs[i]? =some fs.toList[i]:=by simp
  exact ⟨_,(hel i _ h1).trans (List.getElem?_eq_getElem (by simp at hi;omega))⟩)
 simpa using this
theorem St.below {w0 w:World} {cs:List Ch} (h:St (hp w0) w0 w cs):Below w0.heap.size w0 w:=by
 obtain ⟨⟨h1,h2,h3,h4⟩,h5,-⟩:=h
 refine ⟨h1,h2,h3,h4,fun b hb=>?_⟩
 have e:w0.heap[b]? =some w0.heap[b]:=Array.getElem?_eq_getElem hb
 rw[e];exact h5 b _ e
end D
namespace D
open Go.RowKit
theorem dY {n:Int} (h1: -9223372036854775808<=n) (h2:n<=9223372036854775807):IntKind.i64.wrap n=n:=by
 simp only[IntKind.wrap,IntKind.bits,IntKind.signed,Bool.true_and]
 split <;> rename_i h <;> simp at h <;> omega
theorem aj {i:Nat} (h:i<9223372036854775807):IntKind.i64.wrap ((i:Int)+1)=((i+1:Nat):Int):=by
 rw[dY (by omega) (by omega)];rfl
theorem aF {α:Type} {xs:List α} {i:Nat} (h:i<xs.length):aY xs (i:Int)=some (xs[i]):=by
 unfold aY
 rw[if_pos (Int.natCast_nonneg _)]
 simp[h]
theorem bO {i n:Nat} (h:i<n):decide ((i:Int)<(n:Int))=true:=by simp[h]
theorem bG {n:Nat} :decide ((n:Int)<(n:Int))=false:=by simp
theorem gg (k:Nat) (h:k<=9223372036854775807):k<bg:=by unfold bg;omega
theorem sH {α:Type} {b n:Nat} {z:α} (h:n*b<=140737488355328):mkI b (n:Int) z=some (List.replicate n z):=by
 unfold mkI
 rw[if_pos ⟨Int.natCast_nonneg _,by simpa using h⟩];simp
theorem C1 {R S:Type} {f:S->Option (Out R S)} (inv:Nat->S) (N:Nat) (h: ∀i,i<N->f (inv i)=some (.nxt (inv (i+1)))): ∀(m i k:Nat),i+m=N->aB f (k+m) (inv i)=aB f k (inv N)
 | 0,i,k,e=>by rw[show i=N by omega];rfl
 | m+1,i,k,e=>by
  rw[<-Nat.add_assoc,aB,h i (by omega)]
  exact C1 inv N h m (i+1) k (by omega)
theorem C2 {R S:Type} {f:S->Option (Out R S)} (inv:Nat->S) (N:Nat) {s:S} (h: ∀i,i<N->f (inv i)=some (.nxt (inv (i+1)))) (he:f (inv N)=some (.brk s)) (hN:N<bg):aB f bg (inv 0)=some (.brk s):=by
 have e:bg=(bg - N - 1)+1+N:=by omega
 rw[e,C1 inv N h N 0 _ (by omega),aB,he]
theorem toL {R α:Type} {f:List α×Int->Option (Out R (List α×Int))} {z:α} (xs:List α) (hN:xs.length<=9223372036854775807)
  (hstep: ∀ys i (h:i<xs.length),ys.length=xs.length->f (ys,(i:Int))=some (.nxt (ys.set i xs[i],((i+1:Nat):Int)))) (hend: ∀ys,ys.length=xs.length->f (ys,(xs.length:Int))=some (.brk (ys,(xs.length:Int)))) :
  aB f bg (List.replicate xs.length z,0)=some (.brk (xs,(xs.length:Int))):=by
 have h0:(List.replicate xs.length z,(0:Int))=(fun i:Nat=>(xs.take i++(List.replicate xs.length z).drop i,(i:Int))) 0:=by simp
 rw[h0]
 refine C2 (fun i:Nat=>(xs.take i++(List.replicate xs.length z).drop i,(i:Int))) xs.length (fun i hi=>?_) ?_ (gg _ hN)
 ·have hl:(xs.take i++(List.replicate xs.length z).drop i).length=xs.length:=by
   rw[aq,aC,aS,List.length_replicate];omega
  rw[hstep _ i hi hl]
  congr 3
  have ht:(xs.take i).length=i:=by rw[aC];omega
  rw[List.set_append_right _ _ (by omega),ht,Nat.sub_self,List.drop_eq_getElem_cons (by rw[List.length_replicate];exact hi),List.set_cons_zero,List.take_succ_eq_append_getElem hi,ah]
  rfl
 ·have:=hend xs rfl
  rw[List.take_of_length_le (az _),List.drop_of_length_le (by rw[List.length_replicate];exact az _),List.append_nil]
  exact this
def Dl {α:Type} [Data α] (m:α->Int->Option Int):Prop:= ∀x l,Data.lim x->0<=l->l<=1048576-> ∃r,m x l=some r/\(r<0\/(0<=r/\r<=l/\Data.sm x))
def A0 {α:Type} [Data α] (m:α->Option α):Prop:= ∀x,Data.sm x->m x=some x
def A1 {α:Type} [Data α] [DecidableEq α] (m:α->α->Option Bool):Prop:= ∀x y,Data.sm x->Data.sm y->m x y=some (decide (x=y))
theorem Vc {α:Type} [Data α] {f:Int×Int->Option Yq9 } (xs:List α)
  (hstep: ∀i (h:i<xs.length) l,0<=l->l<=1048576-> ∃r,f (l,(i:Int))=some (if r<0 then .ret (-1) else .nxt (r,((i+1:Nat):Int)))/\(r<0\/(0<=r/\r<=l/\Data.sm xs[i])))
  (hend: ∀l,f (l,(xs.length:Int))=some (.brk (l,(xs.length:Int)))): ∀(m i k:Nat) (l:Int),i+m=xs.length->m<k->0<=l->l<=1048576->
   aB f k (l,(i:Int))=some (.ret (-1))\/ ∃r,aB f k (l,(i:Int))=some (.brk (r,(xs.length:Int)))/\0<=r/\r<=l/\ ∀j (h:j<xs.length),i<=j->Data.sm xs[j]
 | 0,i,k,l,e,hk,h0,h1=>by
  obtain ⟨k,rfl⟩: ∃q,k=q+1:=⟨k - 1,by omega⟩
  obtain rfl:i=xs.length:=by omega
  exact .inr ⟨l,by rw[aB,hend],h0,Int.le_refl _,fun j hj hi=>by omega⟩
 | m+1,i,k,l,e,hk,h0,h1=>by
  obtain ⟨k,rfl⟩: ∃q,k=q+1:=⟨k - 1,by omega⟩
  obtain ⟨r,e1,e2⟩:=hstep i (by omega) l h0 h1
  rw[aB,e1]
  rcases e2 with e2 | ⟨e2,e3,e4⟩
  ·rw[if_pos e2];exact .inl rfl
  ·rw[if_neg (by omega)]
   rcases Vc xs hstep hend m (i+1) k r (by omega) (by omega) e2 (by omega) with h | ⟨q,g1,g2,g3,g4⟩
   ·exact .inl h
   ·refine .inr ⟨q,g1,g2,by omega,fun j hj hi=>?_⟩
    by_cases hji:j=i
    ·subst hji;exact e4
    ·exact g4 j hj (by omega)
theorem szL {α:Type} [Data α] {f:Int×Int->Option Yq9 } (xs:List α) {l:Int} (hN:xs.length<=9223372036854775807)
  (hstep: ∀i (h:i<xs.length) l,0<=l->l<=1048576-> ∃r,f (l,(i:Int))=some (if r<0 then .ret (-1) else .nxt (r,((i+1:Nat):Int)))/\(r<0\/(0<=r/\r<=l/\Data.sm xs[i])))
  (hend: ∀l,f (l,(xs.length:Int))=some (.brk (l,(xs.length:Int)))) (h0:0<=l) (h1:l<=1048576) :
  ∃r,(if decide (IntKind.i64.wrap (l - (xs.length:Int))<0) then (some (-1)) else (aV (aB f bg (IntKind.i64.wrap (l - (xs.length:Int)),0)) (fun r=>some r) (fun s4=>some s4.1)))=some r/\(r<0\/(0<=r/\r<=l/\Data.sm xs)):=by
 rw[dY (by omega) (by omega)]
 by_cases h:l - (xs.length:Int)<0
 ·exact ⟨-1,by rw[if_pos (decide_eq_true h)],.inl (by decide)⟩
 ·rw[if_neg (by simpa using h)]
  rcases Vc xs hstep hend xs.length 0 bg (l - xs.length) (by omega) (gg _ hN) (by omega) (by omega) with e | ⟨r,e,g1,g2,g3⟩
  ·exact ⟨-1,by rw[show ((0:Int))=((0:Nat):Int) from rfl,e];rfl,.inl (by decide)⟩
  ·refine ⟨r,by rw[show ((0:Int))=((0:Nat):Int) from rfl,e];rfl,.inr ⟨g1,by omega,by omega,fun x hx=>?_⟩⟩
   obtain ⟨j,hj,rfl⟩:=List.getElem_of_mem hx
   exact g3 j hj (Nat.zero_le _)
theorem szF {α:Type} [Data α] (xs:List α) {l:Int} (hN:xs.length<=9223372036854775807) (hf: ∀x:α,Data.sm x) (h0:0<=l) (h1:l<=1048576) :
  ∃r,(if decide (IntKind.i64.wrap (l - (xs.length:Int))<0) then (some (-1)) else (some (IntKind.i64.wrap (l - (xs.length:Int)))))=some r/\(r<0\/(0<=r/\r<=l/\Data.sm xs)):=by
 rw[dY (by omega) (by omega)]
 by_cases h:l - (xs.length:Int)<0
 ·exact ⟨-1,by rw[if_pos (decide_eq_true h)],.inl (by decide)⟩
 ·exact ⟨_,by rw[if_neg (by simpa using h)],.inr ⟨by omega,by omega,by omega,fun x _=>hf x⟩⟩
theorem Ut {α:Type} [DecidableEq α] {f:Int->Option (Out Bool Int)} (xs ys:List α) (hl:xs.length=ys.length)
  (hstep: ∀i (h:i<xs.length) (h':i<ys.length),f (i:Int)=some (if xs[i] =ys[i] then .nxt ((i+1:Nat):Int) else .ret false)) (hend:f (xs.length:Int)=some (.brk (xs.length:Int))): ∀(m i k:Nat),i+m=xs.length->m<k->
   aB f k (i:Int)=some (if xs.drop i=ys.drop i then .brk (xs.length:Int) else .ret false)
 | 0,i,k,e,hk=>by
  obtain ⟨k,rfl⟩: ∃q,k=q+1:=⟨k - 1,by omega⟩
  obtain rfl:i=xs.length:=by omega
  rw[aB,hend,List.drop_of_length_le (az _),List.drop_of_length_le (by omega),if_pos rfl]
 | m+1,i,k,e,hk=>by
  obtain ⟨k,rfl⟩: ∃q,k=q+1:=⟨k - 1,by omega⟩
  have hi:i<xs.length:=by omega
  have hi':i<ys.length:=by omega
  have d1:=List.drop_eq_getElem_cons hi
  have d2:=List.drop_eq_getElem_cons hi'
  rw[aB,hstep i hi hi',d1,d2]
  by_cases h:xs[i] =ys[i]
  ·rw[if_pos h]
   simp only
   rw[Ut xs ys hl hstep hend m (i+1) k (by omega) (by omega)]
   simp only[List.cons.injEq,h,true_and]
  ·rw[if_neg h]
   simp only[List.cons.injEq,h,false_and,if_false]
theorem eqL {α:Type} [DecidableEq α] {f:Int->Option (Out Bool Int)} (xs ys:List α) (hN:xs.length<=9223372036854775807)
  (hstep: ∀i (h:i<xs.length) (h':i<ys.length),f (i:Int)=some (if xs[i] =ys[i] then .nxt ((i+1:Nat):Int) else .ret false)) (hend:f (xs.length:Int)=some (.brk (xs.length:Int))) :
  (if (xs.length:Int) !=(ys.length:Int) then (some false) else (aV (aB f bg 0) (fun r=>some r) (fun s4=>some true)))=some (decide (xs=ys)):=by
 by_cases hl:xs.length=ys.length
 ·rw[if_neg (by rw[hl];simp),show ((0:Int))=((0:Nat):Int) from rfl,Ut xs ys hl hstep hend xs.length 0 bg (by omega) (gg _ hN)]
  by_cases h:xs=ys
  ·subst h;simp[aV]
  ·simp[aV,h]
 ·have:xs≠ys:=fun e=>hl (by rw[e])
  rw[if_pos (by simp;omega)];simp[this]
theorem eS {α:Type} {c d:Prop} [Decidable c] [Decidable d] {a b:α} (h:c↔d):(if c then some a else some b)=some (if d then a else b):=by
 by_cases k:c
 ·rw[if_pos k,if_pos (h.1 k)]
 ·rw[if_neg k,if_neg (fun e=>k (h.2 e))]
theorem nY {α:Type} {c d:Prop} [Decidable c] [Decidable d] {a b:α} (h:c↔ ¬d):(if c then some b else some a)=some (if d then a else b):=by
 by_cases k:d
 ·rw[if_neg (fun e=>h.1 e k),if_pos k]
 ·rw[if_pos (h.2 k),if_neg k]
theorem eqB {α:Type} [DecidableEq α] {f:Int->Option (Out Bool Int)} {K:Option Bool} (xs ys:List α) (hN:xs.length<=9223372036854775807) (hl:xs.length=ys.length)
  (hstep: ∀i (h:i<xs.length) (h':i<ys.length),f (i:Int)=some (if xs[i] =ys[i] then .nxt ((i+1:Nat):Int) else .ret false)) (hend:f (xs.length:Int)=some (.brk (xs.length:Int))) :
  aV (aB f bg 0) (fun r=>some r) (fun s4=>K)=(if xs=ys then K else some false):=by
 rw[show ((0:Int))=((0:Nat):Int) from rfl,Ut xs ys hl hstep hend xs.length 0 bg (by omega) (gg _ hN)]
 by_cases h:xs=ys
 ·subst h;simp[aV]
 ·simp[aV,h]
theorem SS {f:Int->Option (Out Int Int)} (xs ys:List Int)
  (hstep: ∀i (h:i<xs.length) (h':i<ys.length),f (i:Int)=some (if xs[i] < ys[i] then .ret (-1) else if xs[i] > ys[i] then .ret 1 else .nxt ((i+1:Nat):Int))) (hend: ∀i,xs.length<=i\/ys.length<=i->f (i:Int)=some (.brk (i:Int))): ∀(m i k:Nat),i+m=xs.length->m<k->
   (∃r,aB f k (i:Int)=some (.ret r)/\r≠0/\xs≠ys)\/ ∃s,aB f k (i:Int)=some (.brk s)/\(xs.length=ys.length->xs.drop i=ys.drop i)
 | 0,i,k,e,hk=>by
  obtain ⟨k,rfl⟩: ∃q,k=q+1:=⟨k - 1,by omega⟩
  exact .inr ⟨_,by rw[aB,hend i (.inl (by omega))],fun h=>by rw[List.drop_of_length_le (by omega),List.drop_of_length_le (by omega)]⟩
 | m+1,i,k,e,hk=>by
  obtain ⟨k,rfl⟩: ∃q,k=q+1:=⟨k - 1,by omega⟩
  have hi:i<xs.length:=by omega
  by_cases hi':i<ys.length
  ·have hne: ∀h:xs[i] ≠ys[i],xs≠ys:=fun h e=>h (by subst e;rfl)
   rw[aB,hstep i hi hi']
   by_cases h1:xs[i] < ys[i]
   ·rw[if_pos h1];exact .inl ⟨-1,rfl,by decide,hne (by omega)⟩
   ·rw[if_neg h1]
    by_cases h2:xs[i] > ys[i]
    ·rw[if_pos h2];exact .inl ⟨1,rfl,by decide,hne (by omega)⟩
    ·rw[if_neg h2]
     rcases SS xs ys hstep hend m (i+1) k (by omega) (by omega) with h | ⟨s,g1,g2⟩
     ·exact .inl h
     ·refine .inr ⟨s,g1,fun hl=>?_⟩
      have h3:xs[i] =ys[i]:=by omega
      rw[List.drop_eq_getElem_cons hi,List.drop_eq_getElem_cons hi',g2 hl,h3]
  ·exact .inr ⟨_,by rw[aB,hend i (.inr (by omega))],fun h=>by omega⟩
instance:LawfulBEq ByteArray where
 eq_of_beq {a b} h:=ByteArray.ext (eq_of_beq (show (a.data==b.data)=true from h))
 rfl {a}:=beq_self_eq_true a.data
theorem Vd {α β γ δ:Type} {a b:α×β×γ×δ} :(a.1=b.1/\a.2.1=b.2.1/\a.2.2.1=b.2.2.1/\a.2.2.2=b.2.2.2)↔a=b:=by rw[Prod.ext_iff,Prod.ext_iff,Prod.ext_iff]
theorem eT {α β:Type} (p:α×β):(p.1,p.2)=p:=rfl
theorem aZ {α:Type} [Data α] {xs:List α} (h:Data.sm xs):xs.length<=1048576/\ ∀x,x∈xs->Data.sm x:=h
theorem dU {α:Type} [Data α] {xs:List α} (h:Data.lim xs):xs.length<=9223372036854775807/\ ∀x,x∈xs->Data.lim x:=h
end D
set_option synthInstance.maxSize 20000
set_option synthInstance.maxHeartbeats 2000000
namespace D
open Go.RowKit
theorem F9:Dl p9:=fun xs l hl h0 h1=>szF xs (dU hl).1 (fun _=>trivial) h0 h1
theorem Kk:Dl q7:=fun xs l hl h0 h1=>szF xs (dU hl).1 (fun _=>⟨trivial,trivial,trivial,trivial⟩) h0 h1
theorem Kl:Dl nI:=by
 intro x l hl h0 h1
 unfold nI
 try simp only[eT]
 obtain ⟨r1,e1,k1⟩:=F9 x.1 l hl.1 (by omega) (by omega)
 rw[e1];simp only[aa]
 rcases k1 with k1 | ⟨k1,j1,s1⟩
 ·exact ⟨-1,by rw[if_pos (decide_eq_true k1)],.inl (by decide)⟩
 rw[if_neg (by simpa using k1)]
 obtain ⟨r2,e2,k2⟩:=Kk x.2 r1 hl.2 (by omega) (by omega)
 rw[e2];simp only[aa]
 rcases k2 with k2 | ⟨k2,j2,s2⟩
 ·exact ⟨-1,by rw[if_pos (decide_eq_true k2)],.inl (by decide)⟩
 rw[if_neg (by simpa using k2)]
 exact ⟨_,rfl,.inr ⟨by omega,by omega,⟨s1,s2⟩⟩⟩
theorem Hz:Dl pb:=fun xs l hl h0 h1=>szL (f:=iO xs) xs (dU hl).1 (fun i h l k0 k1=>by
 obtain ⟨r,e,hr⟩:=Kl xs[i] l ((dU hl).2 _ (List.getElem_mem h)) k0 k1
 refine ⟨r,?_,hr⟩
 simp only[iO,bO h,if_true,aF h,aa,eT,e,aj (show i<9223372036854775807 by have:=(dU hl).1;omega)]
 exact eS (by simp)) (fun l=>by simp only[iO,bG];rfl) h0 h1
theorem Ez:Dl kI:=by
 intro x l hl h0 h1
 unfold kI
 try simp only[eT]
 obtain ⟨r1,e1,k1⟩:=Hz x.2 l hl.2 (by omega) (by omega)
 rw[e1];simp only[aa]
 rcases k1 with k1 | ⟨k1,j1,s1⟩
 ·exact ⟨-1,by rw[if_pos (decide_eq_true k1)],.inl (by decide)⟩
 rw[if_neg (by simpa using k1)]
 exact ⟨_,rfl,.inr ⟨by omega,by omega,⟨trivial,s1⟩⟩⟩
theorem Km:Dl q8:=fun xs l hl h0 h1=>szF xs (dU hl).1 (fun _=>trivial) h0 h1
theorem Kn:Dl q9:=fun xs l hl h0 h1=>szL (f:=jL xs) xs (dU hl).1 (fun i h l k0 k1=>by
 obtain ⟨r,e,hr⟩:=F9 xs[i] l ((dU hl).2 _ (List.getElem_mem h)) k0 k1
 refine ⟨r,?_,hr⟩
 simp only[jL,bO h,if_true,aF h,aa,eT,e,aj (show i<9223372036854775807 by have:=(dU hl).1;omega)]
 exact eS (by simp)) (fun l=>by simp only[jL,bG];rfl) h0 h1
theorem A2:Dl iP:=by
 intro x l hl h0 h1
 unfold iP
 try simp only[eT]
 obtain ⟨r1,e1,k1⟩:=Km x.2.1 l hl.2.1 (by omega) (by omega)
 rw[e1];simp only[aa]
 rcases k1 with k1 | ⟨k1,j1,s1⟩
 ·exact ⟨-1,by rw[if_pos (decide_eq_true k1)],.inl (by decide)⟩
 rw[if_neg (by simpa using k1)]
 obtain ⟨r2,e2,k2⟩:=Kn x.2.2 r1 hl.2.2 (by omega) (by omega)
 rw[e2];simp only[aa]
 rcases k2 with k2 | ⟨k2,j2,s2⟩
 ·exact ⟨-1,by rw[if_pos (decide_eq_true k2)],.inl (by decide)⟩
 rw[if_neg (by simpa using k2)]
 exact ⟨_,rfl,.inr ⟨by omega,by omega,⟨trivial,s1,s2⟩⟩⟩
theorem yG:Dl kt:=fun xs l hl h0 h1=>szL (f:=fa xs) xs (dU hl).1 (fun i h l k0 k1=>by
 obtain ⟨r,e,hr⟩:=A2 xs[i] l ((dU hl).2 _ (List.getElem_mem h)) k0 k1
 refine ⟨r,?_,hr⟩
 simp only[fa,bO h,if_true,aF h,aa,eT,e,aj (show i<9223372036854775807 by have:=(dU hl).1;omega)]
 exact eS (by simp)) (fun l=>by simp only[fa,bG];rfl) h0 h1
theorem HA:Dl pc:=fun xs l hl h0 h1=>szF xs (dU hl).1 (fun _=>⟨trivial,trivial,trivial,trivial⟩) h0 h1
theorem NB:Dl qa:=by
 intro x l hl h0 h1
 unfold qa
 try simp only[eT]
 obtain ⟨r1,e1,k1⟩:=HA x l hl (by omega) (by omega)
 rw[e1];simp only[aa]
 rcases k1 with k1 | ⟨k1,j1,s1⟩
 ·exact ⟨-1,by rw[if_pos (decide_eq_true k1)],.inl (by decide)⟩
 rw[if_neg (by simpa using k1)]
 exact ⟨_,rfl,.inr ⟨by omega,by omega,s1⟩⟩
theorem yH:Dl gN:=by
 intro x l hl h0 h1
 unfold gN
 try simp only[eT]
 obtain ⟨r1,e1,k1⟩:=NB x.2.1 l hl.2.1 (by omega) (by omega)
 rw[e1];simp only[aa]
 rcases k1 with k1 | ⟨k1,j1,s1⟩
 ·exact ⟨-1,by rw[if_pos (decide_eq_true k1)],.inl (by decide)⟩
 rw[if_neg (by simpa using k1)]
 exact ⟨_,rfl,.inr ⟨by omega,by omega,⟨trivial,s1,trivial⟩⟩⟩
theorem xH:Dl jv:=fun xs l hl h0 h1=>szL (f:=ez xs) xs (dU hl).1 (fun i h l k0 k1=>by
 obtain ⟨r,e,hr⟩:=yH xs[i] l ((dU hl).2 _ (List.getElem_mem h)) k0 k1
 refine ⟨r,?_,hr⟩
 simp only[ez,bO h,if_true,aF h,aa,eT,e,aj (show i<9223372036854775807 by have:=(dU hl).1;omega)]
 exact eS (by simp)) (fun l=>by simp only[ez,bG];rfl) h0 h1
theorem C3:Dl jM:=by
 intro x l hl h0 h1
 unfold jM
 try simp only[eT]
 obtain ⟨r1,e1,k1⟩:=yG x.1 l hl.1 (by omega) (by omega)
 rw[e1];simp only[aa]
 rcases k1 with k1 | ⟨k1,j1,s1⟩
 ·exact ⟨-1,by rw[if_pos (decide_eq_true k1)],.inl (by decide)⟩
 rw[if_neg (by simpa using k1)]
 obtain ⟨r2,e2,k2⟩:=xH x.2 r1 hl.2 (by omega) (by omega)
 rw[e2];simp only[aa]
 rcases k2 with k2 | ⟨k2,j2,s2⟩
 ·exact ⟨-1,by rw[if_pos (decide_eq_true k2)],.inl (by decide)⟩
 rw[if_neg (by simpa using k2)]
 exact ⟨_,rfl,.inr ⟨by omega,by omega,⟨s1,s2⟩⟩⟩
theorem xI:Dl jw:=fun xs l hl h0 h1=>szF xs (dU hl).1 (fun _=>⟨trivial,trivial,trivial⟩) h0 h1
theorem HB:Dl lV:=by
 intro x l hl h0 h1
 unfold lV
 try simp only[eT]
 obtain ⟨r1,e1,k1⟩:=Ez x.1 l hl.1 (by omega) (by omega)
 rw[e1];simp only[aa]
 rcases k1 with k1 | ⟨k1,j1,s1⟩
 ·exact ⟨-1,by rw[if_pos (decide_eq_true k1)],.inl (by decide)⟩
 rw[if_neg (by simpa using k1)]
 obtain ⟨r2,e2,k2⟩:=C3 x.2.1 r1 hl.2.1 (by omega) (by omega)
 rw[e2];simp only[aa]
 rcases k2 with k2 | ⟨k2,j2,s2⟩
 ·exact ⟨-1,by rw[if_pos (decide_eq_true k2)],.inl (by decide)⟩
 rw[if_neg (by simpa using k2)]
 obtain ⟨r3,e3,k3⟩:=xI x.2.2.1 r2 hl.2.2.1 (by omega) (by omega)
 rw[e3];simp only[aa]
 rcases k3 with k3 | ⟨k3,j3,s3⟩
 ·exact ⟨-1,by rw[if_pos (decide_eq_true k3)],.inl (by decide)⟩
 rw[if_neg (by simpa using k3)]
 rw[dY (by have:x.2.2.2.size<=9223372036854775807:=hl.2.2.2;omega) (by omega)]
 by_cases k4:r3 - (x.2.2.2.size:Int)<0
 ·exact ⟨-1,by rw[if_pos (decide_eq_true k4)],.inl (by decide)⟩
 rw[if_neg (by simpa using k4)]
 have s4:x.2.2.2.size<=1048576:=by omega
 exact ⟨_,rfl,.inr ⟨by omega,by omega,⟨s1,s2,s3,s4⟩⟩⟩
theorem Gc:A0 mO:=by
 intro xs hx
 have hn:=(aZ hx).1
 unfold mO
 rw[sH (by omega)];simp only[aa]
 rw[toL (f:=kK xs) xs (by omega) (fun ys i h hy=>by simp only[kK,bO h,if_true,aF h,aF (show i<ys.length by omega),aa,eT,aj (show i<9223372036854775807 by omega),Int.toNat_natCast]) (fun ys hy=>by simp only[kK,bG];rfl)]
 rfl
theorem NC:A0 qc:=by
 intro x hx
 unfold qc
 simp only[eT,aa]
theorem Ko:A0 nK:=by
 intro xs hx
 have hn:=(aZ hx).1
 unfold nK
 rw[sH (by omega)];simp only[aa]
 rw[toL (f:=jS xs) xs (by omega) (fun ys i h hy=>by simp only[jS,bO h,if_true,aF h,aF (show i<ys.length by omega),aa,eT,NC xs[i] ((aZ hx).2 _ (List.getElem_mem h)),aj (show i<9223372036854775807 by omega),Int.toNat_natCast]) (fun ys hy=>by simp only[jS,bG];rfl)]
 rfl
theorem Kp:A0 nL:=by
 intro x hx
 unfold nL
 simp only[eT,aa,Gc x.1 hx.1,Ko x.2 hx.2]
theorem HC:A0 l5:=by
 intro xs hx
 have hn:=(aZ hx).1
 unfold l5
 rw[sH (by omega)];simp only[aa]
 rw[toL (f:=iT xs) xs (by omega) (fun ys i h hy=>by simp only[iT,bO h,if_true,aF h,aF (show i<ys.length by omega),aa,eT,Kp xs[i] ((aZ hx).2 _ (List.getElem_mem h)),aj (show i<9223372036854775807 by omega),Int.toNat_natCast]) (fun ys hy=>by simp only[iT,bG];rfl)]
 rfl
theorem EA:A0 kL:=by
 intro x hx
 unfold kL
 simp only[eT,aa,HC x.2 hx.2]
theorem Kq:A0 nM:=by
 intro xs hx
 have hn:=(aZ hx).1
 unfold nM
 rw[sH (by omega)];simp only[aa]
 rw[toL (f:=jT xs) xs (by omega) (fun ys i h hy=>by simp only[jT,bO h,if_true,aF h,aF (show i<ys.length by omega),aa,eT,aj (show i<9223372036854775807 by omega),Int.toNat_natCast]) (fun ys hy=>by simp only[jT,bG];rfl)]
 rfl
theorem Kr:A0 nN:=by
 intro xs hx
 have hn:=(aZ hx).1
 unfold nN
 rw[sH (by omega)];simp only[aa]
 rw[toL (f:=jU xs) xs (by omega) (fun ys i h hy=>by simp only[jU,bO h,if_true,aF h,aF (show i<ys.length by omega),aa,eT,Gc xs[i] ((aZ hx).2 _ (List.getElem_mem h)),aj (show i<9223372036854775807 by omega),Int.toNat_natCast]) (fun ys hy=>by simp only[jU,bG];rfl)]
 rfl
theorem A3:A0 iU:=by
 intro x hx
 unfold iU
 simp only[eT,aa,Kq x.2.1 hx.2.1,Kr x.2.2 hx.2.2]
theorem yI:A0 gQ:=by
 intro xs hx
 have hn:=(aZ hx).1
 unfold gQ
 rw[sH (by omega)];simp only[aa]
 rw[toL (f:=ff xs) xs (by omega) (fun ys i h hy=>by simp only[ff,bO h,if_true,aF h,aF (show i<ys.length by omega),aa,eT,A3 xs[i] ((aZ hx).2 _ (List.getElem_mem h)),aj (show i<9223372036854775807 by omega),Int.toNat_natCast]) (fun ys hy=>by simp only[ff,bG];rfl)]
 rfl
theorem Ks:A0 nO:=by
 intro x hx
 unfold nO
 simp only[eT,aa]
theorem HD:A0 l6:=by
 intro xs hx
 have hn:=(aZ hx).1
 unfold l6
 rw[sH (by omega)];simp only[aa]
 rw[toL (f:=iV xs) xs (by omega) (fun ys i h hy=>by simp only[iV,bO h,if_true,aF h,aF (show i<ys.length by omega),aa,eT,Ks xs[i] ((aZ hx).2 _ (List.getElem_mem h)),aj (show i<9223372036854775807 by omega),Int.toNat_natCast]) (fun ys hy=>by simp only[iV,bG];rfl)]
 rfl
theorem ND:A0 qd:=by
 intro x hx
 unfold qd
 simp only[eT,aa,HD x hx]
theorem yJ:A0 gR:=by
 intro x hx
 unfold gR
 simp only[eT,aa,ND x.2.1 hx.2.1]
theorem xJ:A0 gu:=by
 intro xs hx
 have hn:=(aZ hx).1
 unfold gu
 rw[sH (by omega)];simp only[aa]
 rw[toL (f:=eC xs) xs (by omega) (fun ys i h hy=>by simp only[eC,bO h,if_true,aF h,aF (show i<ys.length by omega),aa,eT,yJ xs[i] ((aZ hx).2 _ (List.getElem_mem h)),aj (show i<9223372036854775807 by omega),Int.toNat_natCast]) (fun ys hy=>by simp only[eC,bG];rfl)]
 rfl
theorem C4:A0 jV:=by
 intro x hx
 unfold jV
 simp only[eT,aa,yI x.1 hx.1,xJ x.2 hx.2]
theorem yK:A0 gS:=by
 intro x hx
 unfold gS
 simp only[eT,aa]
theorem xK:A0 gx:=by
 intro xs hx
 have hn:=(aZ hx).1
 unfold gx
 rw[sH (by omega)];simp only[aa]
 rw[toL (f:=eD xs) xs (by omega) (fun ys i h hy=>by simp only[eD,bO h,if_true,aF h,aF (show i<ys.length by omega),aa,eT,yK xs[i] ((aZ hx).2 _ (List.getElem_mem h)),aj (show i<9223372036854775807 by omega),Int.toNat_natCast]) (fun ys hy=>by simp only[eD,bG];rfl)]
 rfl
theorem HE:A0 il:=by
 intro x hx
 unfold il
 simp only[eT,aa,EA x.1 hx.1,C4 x.2.1 hx.2.1,xK x.2.2.1 hx.2.2.1]
theorem Ge:A1 qg:=fun xs ys hx hy=>eqL (f:=kM xs ys) xs ys (by have:=(aZ hx).1;omega) (fun i h h'=>by
 simp only[kM,bO h,if_true,aF h,aF h',aa,eT,aj (show i<9223372036854775807 by have:=(aZ hx).1;omega)]
 first | exact eS (by simp) | exact nY (by simp) | exact eS (by simp[Prod.ext_iff])) (by simp only[kM,bG];rfl)
theorem NF:A1 qi:=by
 intro x y hx hy
 unfold qi
 try simp only[eT,aa]
 repeat' split
 all_goals simp_all[Prod.ext_iff]
theorem Kt:A1 rf:=fun xs ys hx hy=>eqL (f:=jY xs ys) xs ys (by have:=(aZ hx).1;omega) (fun i h h'=>by
 simp only[jY,bO h,if_true,aF h,aF h',aa,eT,NF xs[i] ys[i] ((aZ hx).2 _ (List.getElem_mem h)) ((aZ hy).2 _ (List.getElem_mem h')),aj (show i<9223372036854775807 by have:=(aZ hx).1;omega)]
 first | exact eS (by simp) | exact nY (by simp) | exact eS (by simp[Prod.ext_iff])) (by simp only[jY,bG];rfl)
theorem Ku:A1 nS:=by
 intro x y hx hy
 unfold nS
 try simp only[eT,aa,Ge x.1 y.1 hx.1 hy.1,Kt x.2 y.2 hx.2 hy.2]
 repeat' split
 all_goals simp_all[Prod.ext_iff]
theorem HF:A1 pd:=fun xs ys hx hy=>eqL (f:=ja xs ys) xs ys (by have:=(aZ hx).1;omega) (fun i h h'=>by
 simp only[ja,bO h,if_true,aF h,aF h',aa,eT,Ku xs[i] ys[i] ((aZ hx).2 _ (List.getElem_mem h)) ((aZ hy).2 _ (List.getElem_mem h')),aj (show i<9223372036854775807 by have:=(aZ hx).1;omega)]
 first | exact eS (by simp) | exact nY (by simp) | exact eS (by simp[Prod.ext_iff])) (by simp only[ja,bG];rfl)
theorem EB:A1 kN:=by
 intro x y hx hy
 unfold kN
 try simp only[eT,aa,HF x.2 y.2 hx.2 hy.2]
 repeat' split
 all_goals simp_all[Prod.ext_iff]
theorem Kv:A1 rh:=fun xs ys hx hy=>eqL (f:=jZ xs ys) xs ys (by have:=(aZ hx).1;omega) (fun i h h'=>by
 simp only[jZ,bO h,if_true,aF h,aF h',aa,eT,aj (show i<9223372036854775807 by have:=(aZ hx).1;omega)]
 first | exact eS (by simp) | exact nY (by simp) | exact eS (by simp[Prod.ext_iff])) (by simp only[jZ,bG];rfl)
theorem Kw:A1 ri:=fun xs ys hx hy=>eqL (f:=j4 xs ys) xs ys (by have:=(aZ hx).1;omega) (fun i h h'=>by
 simp only[j4,bO h,if_true,aF h,aF h',aa,eT,Ge xs[i] ys[i] ((aZ hx).2 _ (List.getElem_mem h)) ((aZ hy).2 _ (List.getElem_mem h')),aj (show i<9223372036854775807 by have:=(aZ hx).1;omega)]
 first | exact eS (by simp) | exact nY (by simp) | exact eS (by simp[Prod.ext_iff])) (by simp only[j4,bG];rfl)
theorem A4:A1 jb:=by
 intro x y hx hy
 unfold jb
 try simp only[eT,aa,Kv x.2.1 y.2.1 hx.2.1 hy.2.1,Kw x.2.2 y.2.2 hx.2.2 hy.2.2]
 repeat' split
 all_goals simp_all[Prod.ext_iff]
theorem yL:A1 ky:=fun xs ys hx hy=>eqL (f:=fo xs ys) xs ys (by have:=(aZ hx).1;omega) (fun i h h'=>by
 simp only[fo,bO h,if_true,aF h,aF h',aa,eT,A4 xs[i] ys[i] ((aZ hx).2 _ (List.getElem_mem h)) ((aZ hy).2 _ (List.getElem_mem h')),aj (show i<9223372036854775807 by have:=(aZ hx).1;omega)]
 first | exact eS (by simp) | exact nY (by simp) | exact eS (by simp[Prod.ext_iff])) (by simp only[fo,bG];rfl)
theorem Kx:A1 nT:=by
 intro x y hx hy
 unfold nT
 try simp only[eT,aa]
 repeat' split
 all_goals simp_all[Prod.ext_iff]
theorem HG:A1 pe:=fun xs ys hx hy=>eqL (f:=jc xs ys) xs ys (by have:=(aZ hx).1;omega) (fun i h h'=>by
 simp only[jc,bO h,if_true,aF h,aF h',aa,eT,Kx xs[i] ys[i] ((aZ hx).2 _ (List.getElem_mem h)) ((aZ hy).2 _ (List.getElem_mem h')),aj (show i<9223372036854775807 by have:=(aZ hx).1;omega)]
 first | exact eS (by simp) | exact nY (by simp) | exact eS (by simp[Prod.ext_iff])) (by simp only[jc,bG];rfl)
theorem NG:A1 qj:=by
 intro x y hx hy
 unfold qj
 try simp only[eT,aa,HG x y hx hy]
 repeat' split
 all_goals simp_all[Prod.ext_iff]
theorem yM:A1 gV:=by
 intro x y hx hy
 unfold gV
 try simp only[eT,aa,NG x.2.1 y.2.1 hx.2.1 hy.2.1]
 repeat' split
 all_goals simp_all[Prod.ext_iff]
theorem xL:A1 jB:=fun xs ys hx hy=>eqL (f:=eE xs ys) xs ys (by have:=(aZ hx).1;omega) (fun i h h'=>by
 simp only[eE,bO h,if_true,aF h,aF h',aa,eT,yM xs[i] ys[i] ((aZ hx).2 _ (List.getElem_mem h)) ((aZ hy).2 _ (List.getElem_mem h')),aj (show i<9223372036854775807 by have:=(aZ hx).1;omega)]
 first | exact eS (by simp) | exact nY (by simp) | exact eS (by simp[Prod.ext_iff])) (by simp only[eE,bG];rfl)
theorem C5:A1 j5:=by
 intro x y hx hy
 unfold j5
 try simp only[eT,aa,yL x.1 y.1 hx.1 hy.1,xL x.2 y.2 hx.2 hy.2]
 repeat' split
 all_goals simp_all[Prod.ext_iff]
theorem yN:A1 gW:=by
 intro x y hx hy
 unfold gW
 try simp only[eT,aa]
 repeat' split
 all_goals simp_all[Prod.ext_iff]
theorem xM:A1 jC:=fun xs ys hx hy=>eqL (f:=eF xs ys) xs ys (by have:=(aZ hx).1;omega) (fun i h h'=>by
 simp only[eF,bO h,if_true,aF h,aF h',aa,eT,yN xs[i] ys[i] ((aZ hx).2 _ (List.getElem_mem h)) ((aZ hy).2 _ (List.getElem_mem h')),aj (show i<9223372036854775807 by have:=(aZ hx).1;omega)]
 first | exact eS (by simp) | exact nY (by simp) | exact eS (by simp[Prod.ext_iff])) (by simp only[eF,bG];rfl)
theorem HH:A1 l7:=by
 intro x y hx hy
 unfold l7
 try simp only[eT,aa,EB x.1 y.1 hx.1 hy.1,C5 x.2.1 y.2.1 hx.2.1 hy.2.1,xM x.2.2.1 y.2.2.1 hx.2.2.1 hy.2.2.1]
 repeat' split
 all_goals simp_all[Prod.ext_iff]
end D
namespace D
open Go.RowKit
theorem cO {R S:Type} {f:S->Option (Out R S)} (Inv:Nat->S->Prop) (Q:Out R S->Prop) (N:Nat)
  (h: ∀i s,i<=N->Inv i s->(i<N/\ ∃s',f s=some (.nxt s')/\Inv (i+1) s')\/ ∃o,f s=some o/\(∀s',o≠ .nxt s')/\Q o) {s:S} (h0:Inv 0 s) (hN:N<bg): ∃o,aB f bg s=some o/\Q o:=by
 have key: ∀(k i:Nat) (s:S),i<=N->N<i+k->Inv i s-> ∃o,aB f k s=some o/\Q o:=by
  intro k
  induction k with
  | zero=>intro i s h1 h2;omega
  | succ k ih =>
   intro i s h1 h2 hI
   rcases h i s h1 hI with ⟨hi,s',e,hI'⟩ | ⟨o,e,hn,hq⟩
   ·obtain ⟨o,e',hq⟩:=ih (i+1) s' (by omega) (by omega) hI'
    exact ⟨o,by rw[aB,e];exact e',hq⟩
   ·refine ⟨o,?_,hq⟩
    rw[aB,e]
    cases o with
    | nxt s'=>exact absurd rfl (hn s')
    | brk s'=>rfl
    | ret r=>rfl
 exact key bg 0 s (by omega) (by omega) h0
theorem lI {R S:Type} {f:S->Option (Out R S)} (Inv:Nat->S->Prop) (N:Nat) (h: ∀i s,i<N->Inv i s-> ∃s',f s=some (.nxt s')/\Inv (i+1) s') (he: ∀s,Inv N s->f s=some (.brk s)) {s:S} (h0:Inv 0 s) (hN:N<bg): ∃s',aB f bg s=some (.brk s')/\Inv N s':=by
 obtain ⟨o,e,s',rfl,h⟩:=cO (f:=f) Inv (fun o=> ∃s',o= .brk s'/\Inv N s') N (fun i s hi hI=>by
  by_cases h1:i<N
  ·exact .inl ⟨h1,h i s h1 hI⟩
  ·obtain rfl:i=N:=by omega
   exact .inr ⟨_,he s hI,(fun s' e=>by cases e),s,rfl,hI⟩) h0 hN
 exact ⟨s',e,h⟩
theorem bK {R S:Type} {f:S->Option (Out R S)} (st:Nat->S) (N:Nat) (h: ∀i,i<N->f (st i)=some (.nxt (st (i+1)))) (he:f (st N)=some (.brk (st N))) (hN:N<bg):aB f bg (st 0)=some (.brk (st N)):=C2 st N h he hN
theorem rH {k:Nat} (h:k<=9223372036854775807):k<bg:=gg k h
theorem nl {i:Nat} (h:i<=9223372036854775807):IntKind.i64.wrap ((i:Int) - 1)=(i:Int) - 1:=dY (by omega) (by omega)
theorem aQ {α:Type} {b:Nat} {xs ys:List α} (h:(xs.length+ys.length)*b<=140737488355328):di b xs ys=some (xs++ys):=by unfold di;rw[if_pos h]
theorem cv {R S T:Type} {x:Option (Out R S)} {r:R} {kr:R->Option T} {k:S->Option T} (h:x=some (.ret r)):aV x kr k=kr r:=by rw[h];rfl
theorem aD {R S T:Type} {x:Option (Out R S)} {s:S} {kr:R->Option T} {k:S->Option T} (h:x=some (.brk s)):aV x kr k=k s:=by rw[h];rfl
def nth {α:Type} [Inhabited α] (xs:List α) (i:Int):α:=xs.getD i.toNat default
section
variable {α:Type} [Inhabited α] {xs ys:List α}
theorem aK {i:Int} (h0:0<=i) (h1:i<xs.length):aY xs i=some (nth xs i):=by
 unfold aY nth
 rw[if_pos h0]
 have:i.toNat<xs.length:=by omega
 simp[List.getD_eq_getElem?_getD,this]
theorem b8 {i:Nat} (h:i<xs.length):nth xs (i:Int)=xs[i]:=by simp[nth,List.getD_eq_getElem?_getD,h]
theorem jj {i:Int} (h0:0<=i) (h1:i<xs.length):nth xs i∈xs:=by
 have:i.toNat<xs.length:=by omega
 have e:nth xs i=xs[i.toNat]:=by simp[nth,List.getD_eq_getElem?_getD,this]
 rw[e];exact List.getElem_mem this
theorem gh {i:Int} (h0:0<=i) (h1:i<xs.length):nth (xs++ys) i=nth xs i:=by
 have:i.toNat<xs.length:=by omega
 simp[nth,List.getD_eq_getElem?_getD,List.getElem?_append_left this]
theorem EC {x:α} (h:x∈xs): ∃i:Nat,i<xs.length/\nth xs (i:Int)=x:=by
 obtain ⟨i,hi,rfl⟩:=List.getElem_of_mem h
 exact ⟨i,hi,b8 hi⟩
theorem C6 {i:Int} {x:α} (h0:0<=i) (h1:i<xs.length):nth (xs.set i.toNat x) i=x:=by
 have:i.toNat<xs.length:=by omega
 simp[nth,List.getD_eq_getElem?_getD,this]
theorem Rh (h:xs.length=ys.length) (k: ∀i:Nat,i<xs.length->nth xs (i:Int)=nth ys (i:Int)):xs=ys:=by
 refine List.ext_getElem h fun i h1 h2=>?_
 have:=k i h1
 rwa [b8 h1,b8 h2] at this
end
section
variable {κ:Type} [DecidableEq κ]
def nbL (l:List κ):Option κ->List κ
 | none=>l
 | some x=>if x∈l then l else l++ [x]
def nbI (l:List κ):Option κ->Int
 | none=> -1
 | some x=>(l.idxOf x:Int)
def nbS (l:List κ) (os:List (Option κ)):List κ:=os.foldl nbL l
def nbR (l:List κ):List (Option κ)->List Int
 | [] =>[]
 | o::os=>nbI l o::nbR (nbL l o) os
theorem sI (l:List κ) (os:List (Option κ)) (o:Option κ):nbS l (os++ [o])=nbL (nbS l os) o:=by simp[nbS]
theorem ql: ∀(l:List κ) (os:List (Option κ)) (o:Option κ),nbR l (os++ [o])=nbR l os++ [nbI (nbS l os) o]
 | l,[],o=>rfl
 | l,p::os,o=>by
  show nbI l p::nbR (nbL l p) (os++ [o])=nbI l p::nbR (nbL l p) os++ [nbI (nbS (nbL l p) os) o]
  rw[ql (nbL l p) os o];rfl
theorem dK: ∀(l:List κ) (os:List (Option κ)),(nbR l os).length=os.length
 | l,[] =>rfl
 | l,o::os=>by show (nbR (nbL l o) os).length+1=_;rw[dK];rfl
theorem HI (l : List κ) (o : Option κ) : l <+: nbL l o := by
  cases o with
  | none => exact List.prefix_refl l
  | some x => unfold nbL; simp only; split
              · exact List.prefix_refl l
              · exact List.prefix_append l [x]
theorem jH: ∀(l:List κ) (os:List (Option κ)),l <+:nbS l os
 | l,[] =>List.prefix_refl l
 | l,o::os=>(HI l o).trans (jH (nbL l o) os)
theorem Ky {l : List κ} {o : Option κ} (h : l.Nodup) : (nbL l o).Nodup := by
  cases o with
  | none => exact h
  | some x => unfold nbL; simp only; split
              · exact h
              · rename_i hx; exact List.nodup_append.2 ⟨h, by simp, by rintro a ha b hb rfl; simp at hb; exact hx (hb ▸ ha)⟩
theorem pM: ∀ {l:List κ} {os:List (Option κ)},l.Nodup->(nbS l os).Nodup
 | l,[],h=>h
 | l,o::os,h=>pM (l:=nbL l o) (os:=os) (Ky h)
theorem Kz {l : List κ} {o : Option κ} {x : κ} : x ∈ nbL l o ↔ x ∈ l \/ o = some x := by
  cases o with
  | none => simp [nbL]
  | some y => unfold nbL; simp only; split
              · rename_i h; constructor
                · exact .inl
                · rintro (h' | h')
                  · exact h'
                  · simp at h'; exact h' ▸ h
              · simp; exact or_congr Iff.rfl eq_comm
theorem tV: ∀ {l:List κ} {os:List (Option κ)} {x:κ},x∈nbS l os↔x∈l\/some x∈os
 | l,[],x=>by simp[nbS]
 | l,o::os,x=>by
  show x∈nbS (nbL l o) os↔_
  rw[tV,Kz,List.mem_cons,or_assoc]
  exact or_congr Iff.rfl (or_congr eq_comm Iff.rfl)
theorem kC {l:List κ} {x:κ} (h:x∈l):nbL l (some x)=l:=by simp[nbL,h]
theorem jI {l:List κ} {x:κ} (h:x∉l):nbL l (some x)=l++ [x]:=by simp[nbL,h]
theorem np {l:List κ} {x:κ} (h:x∉l):l.idxOf x=l.length:=List.idxOf_eq_length h
def bfS (nx:κ->List (Option κ)) (first:κ):Nat->List κ
 | 0=>[first]
 | i+1=>match (bfS nx first i)[i]? with
  | some x=>nbS (bfS nx first i) (nx x)
  | none=>bfS nx first i
def bfR (nx:κ->List (Option κ)) (first:κ):Nat->List (List Int)
 | 0=>[]
 | i+1=>bfR nx first i++(match (bfS nx first i)[i]? with
  | some x=>[nbR (bfS nx first i) (nx x)]
  | none=>[])
variable {nx:κ->List (Option κ)} {first:κ}
theorem A5 {i:Nat} (h:i<(bfS nx first i).length):bfS nx first (i+1)=nbS (bfS nx first i) (nx ((bfS nx first i)[i])):=by
 rw[bfS,List.getElem?_eq_getElem h]
theorem sJ {i:Nat} (h:i<(bfS nx first i).length):bfR nx first (i+1)=bfR nx first i++ [nbR (bfS nx first i) (nx ((bfS nx first i)[i]))]:=by
 rw[bfR,List.getElem?_eq_getElem h]
theorem bI (i:Nat):bfS nx first i <+:bfS nx first (i+1):=by
 rw[bfS]
 split
 ·exact jH _ _
 ·exact List.prefix_refl _
theorem tW {i j:Nat} (h:i<=j):bfS nx first i <+:bfS nx first j:=by
 induction h with
 | refl=>exact List.prefix_refl _
 | step _ ih=>exact ih.trans (bI _)
theorem lJ: ∀i,(bfS nx first i).Nodup
 | 0=>by simp[bfS]
 | i+1=>by
  rw[bfS]
  split
  ·exact pM (lJ i)
  ·exact lJ i
theorem jk {G:κ->Prop} (h0:G first) (h: ∀x,G x-> ∀y,some y∈nx x->G y): ∀i,∀x∈bfS nx first i,G x
 | 0=>by simp[bfS];exact h0
 | i+1=>by
  rw[bfS]
  split
  ·rename_i y hy
   intro x hx
   rcases tV.1 hx with hx | hx
   ·exact jk h0 h i x hx
   ·exact h y (jk h0 h i y (List.mem_of_getElem? hy)) x hx
  ·exact jk h0 h i
theorem C7 (i:Nat):(bfS nx first i)[0]? =some first:=by
 obtain ⟨t,ht⟩:=tW (nx:=nx) (first:=first) (Nat.zero_le i)
 rw[<-ht];rfl
theorem iA: ∀ {i:Nat},(∀j,j<i->j<(bfS nx first j).length)->(bfR nx first i).length=i
 | 0,_=>rfl
 | i+1,h=>by rw[sJ (h i (by omega)),aq,iA fun j hj=>h j (by omega)];rfl
def bfE (nx:κ->List (Option κ)) (first:κ) (N:Nat):Prop:=N=(bfS nx first N).length/\ ∀i,i<N->i<(bfS nx first i).length
theorem O4 {B:Nat} (hB: ∀i,(bfS nx first i).length<=B): ∃N,N<=B/\bfE nx first N:=by
 have key: ∀m i,i+m=B->(∀j,j<i->j<(bfS nx first j).length)-> ∃N,N<=B/\bfE nx first N:=by
  intro m
  induction m with
  | zero =>
   intro i hi hj
   have h1:=hB i
   have h2:i<=(bfS nx first i).length:=by
    cases i with
    | zero=>omega
    | succ i =>
     have:=hj i (by omega)
     have hp:=(bI (nx:=nx) (first:=first) i).length_le
     omega
   exact ⟨i,by omega,by omega,hj⟩
  | succ m ih =>
   intro i hi hj
   by_cases h:i<(bfS nx first i).length
   ·exact ih (i+1) (by omega) fun j hj'=>by
     by_cases e:j=i
     ·subst e;exact h
     ·exact hj j (by omega)
   ·have h2:i<=(bfS nx first i).length:=by
     cases i with
     | zero=>omega
     | succ i =>
      have:=hj i (by omega)
      have hp:=(bI (nx:=nx) (first:=first) i).length_le
      omega
    exact ⟨i,by omega,by omega,hj⟩
 exact key B 0 (by omega) (by omega)
theorem NH {N M:Nat} (h:bfE nx first N) (k:bfE nx first M):N=M:=by
 rcases Nat.lt_trichotomy N M with e | e | e
 ·have:=k.2 N e;have:=h.1;omega
 ·exact e
 ·have:=h.2 M e;have:=k.1;omega
end
end D
namespace D
abbrev Pr:=Int×Int
def ltP (a b:Pr):Prop:=a.1<b.1\/a.1=b.1/\a.2<b.2
instance (a b:Pr):Decidable (ltP a b):=inferInstanceAs (Decidable (_\/_))
end D
namespace D
open Go.RowKit
section
variable {l m:List Pr} {p:Pr}
end
end D
namespace D
open Go.RowKit
end D
set_option synthInstance.maxSize 20000
set_option synthInstance.maxHeartbeats 2000000
namespace D
open Go.RowKit
end D
set_option synthInstance.maxSize 20000
set_option synthInstance.maxHeartbeats 2000000
namespace D
open Go.RowKit
def mkB (l:List UInt8):ByteArray:=⟨l.toArray⟩
theorem Ri (a b:List UInt8):mkB a++mkB b=mkB (a++b):=ByteArray.ext (by simp[mkB])
theorem bF (a:List UInt8):(mkB a).size=a.length:=by simp[mkB,ByteArray.size]
theorem dV (a:List UInt8):(mkB a).data.toList=a:=by simp[mkB]
theorem A6 (a b:List UInt8) (h:a.length+b.length<=9223372036854775807):kp (mkB a) (mkB b)=some (mkB (a++b)):=by
 unfold kp chk
 rw[bF,bF,if_pos h,aa,Ri]
theorem Vr: ∀d:Fin 10,IntKind.u8.wrap (IntKind.i64.wrap (48+(d.val:Int)))=48+(d.val:Int):=by decide
theorem Vs {d:Nat} (h:d<10):um [IntKind.u8.wrap (IntKind.i64.wrap (48+(d:Int)))] =mkB [UInt8.ofNat (48+d)]:=by
 rw[Vr ⟨d,h⟩]
 show ByteArray.empty.push (UInt8.ofNat (48+(d:Int)).toNat)=_
 rw[show (48+(d:Int)).toNat=48+d by omega];rfl
theorem Vt (m:Int):(if decide ((Int.tmod m 10)<0) then (some (IntKind.i64.wrap (-(Int.tmod m 10)))) else (some (Int.tmod m 10)):Option Int)=some ((m.natAbs % 10:Nat):Int):=by
 by_cases h:m<0
 ·obtain ⟨k,rfl⟩: ∃k:Nat,m= -(k:Int):=⟨m.natAbs,by omega⟩
  have e:Int.tmod (-(k:Int)) 10= -((k % 10:Nat):Int):=by rw[Int.neg_tmod];rfl
  rw[e,Int.natAbs_neg,Int.natAbs_natCast]
  by_cases h0:k % 10=0
  ·rw[h0];rfl
  ·rw[if_pos (decide_eq_true (by omega)),Int.neg_neg,dY (by omega) (by omega)]
 ·obtain ⟨k,rfl⟩: ∃k:Nat,m=(k:Int):=⟨m.natAbs,by omega⟩
  have e:Int.tmod (k:Int) 10=((k % 10:Nat):Int):=rfl
  rw[e,if_neg (by simp;omega),Int.natAbs_natCast]
theorem Ve {m:Int} (h:I64 m):LC m 10=m.tdiv 10/\(m.tdiv 10).natAbs=m.natAbs / 10:=by
 have k:(m.tdiv 10).natAbs=m.natAbs / 10:=Int.natAbs_tdiv m 10
 unfold I64 at h
 refine ⟨?_,k⟩
 unfold LC
 exact dY (by omega) (by omega)
theorem Rj {m:Int} {out:List UInt8} (h0:m≠0) (h:I64 m) (hl:out.length<=1000):c7 (m,mkB out)=some (.nxt (m.tdiv 10,mkB (UInt8.ofNat (48+m.natAbs % 10)::out))):=by
 unfold c7
 simp only[]
 rw[if_pos (by simpa using h0),Vt,aa,Vs (Nat.mod_lt _ (by omega)),A6 _ _ (by simp;omega),aa,(Ve h).1];rfl
theorem O5 (u:Nat):1<=Lib.nDigits u:=by
 by_cases h:u<10
 ·rw[Lib.nDigits_small h];omega
 ·rw[Lib.nDigits_big h];omega
theorem KB: ∀(k:Nat) (m:Int) (out:List UInt8),m≠0->I64 m->Lib.nDigits m.natAbs<=k->out.length+Lib.nDigits m.natAbs<=100->aB c7 (k+1) (m,mkB out)=some (.brk (0,mkB (Lib.decDigits m.natAbs++out)))
 | 0,m,out,_,_,h,_=>by have:=O5 m.natAbs;omega
 | k+1,m,out,h0,hm,h,hl=>by
  rw[aB,Rj h0 hm (by omega)]
  show aB c7 (k+1) (m.tdiv 10,_)=_
  have hq:=(Ve hm).2
  by_cases h1:m.natAbs<10
  ·have hz:m.tdiv 10=0:=by
    have:(m.tdiv 10).natAbs=0:=by rw[hq];omega
    omega
   rw[hz,aB]
   have:c7 (0,mkB (UInt8.ofNat (48+m.natAbs % 10)::out))=some (.brk (0,mkB (UInt8.ofNat (48+m.natAbs % 10)::out))):=rfl
   rw[this,Lib.decDigits_one h1,Nat.mod_eq_of_lt h1];rfl
  ·have hz:m.tdiv 10≠0:=by
    intro e
    rw[e] at hq
    have:m.natAbs / 10=0:=by simpa using hq.symm
    omega
   have hn:=Lib.nDigits_big h1
   have hi:I64 (m.tdiv 10):=by unfold I64 at hm⊢;omega
   rw[KB k _ _ hz hi (by rw[hq];omega) (by rw[hq,ak];omega),hq]
   have:Lib.decDigits m.natAbs=Lib.decDigits (m.natAbs / 10)++ [UInt8.ofNat (48+m.natAbs % 10)]:=by rw[Lib.decDigits,dif_neg h1]
   rw[this,ah];rfl
theorem oJ {n:Int} (h:I64 n):(Lib.itoa n).length<=21:=Lib.itoa_length_le n h.1 h.2
theorem Uu {n:Int} (h:I64 n):Lib.nDigits n.natAbs<=21:=by
 have:=oJ h
 unfold Lib.itoa at this
 split at this
 ·rw[ak,Lib.decDigits_length] at this;omega
 ·rw[Lib.decDigits_length] at this
  rw[show n.natAbs=n.toNat by omega];exact this
theorem qm {n:Int} (h:I64 n):bS n=some (mkB (Lib.itoa n)):=by
 unfold bS
 by_cases h0:n=0
 ·subst h0
  rw[if_pos (by rfl:((0:Int)==0)=true)]
  have:Lib.itoa 0= [48]:=by unfold Lib.itoa;rw[if_neg (by decide)];exact Lib.decDigits_one (by decide)
  rw[this];rfl
 rw[if_neg (by simpa using h0)]
 have hn:=Uu h
 have hf:=gg 100 (by omega)
 obtain ⟨k,hk⟩: ∃k,bg=k+1:=⟨bg - 1,by omega⟩
 have hL:aB c7 bg (n,(⟨#[]⟩:ByteArray))=some (.brk (0,mkB (Lib.decDigits n.natAbs++ []))):=by
  rw[hk];exact KB k n [] h0 h (by omega) (by simp;omega)
 rw[aD hL,List.append_nil]
 have hd:(Lib.decDigits n.natAbs).length<=21:=by rw[Lib.decDigits_length];exact hn
 unfold Lib.itoa
 by_cases h1:n<0
 ·rw[if_pos (decide_eq_true h1),if_pos h1]
  show (kp (mkB [45]) _).bind _=_
  rw[A6 _ _ (by simp;omega)];rfl
 ·rw[if_neg (by simpa using h1),if_neg h1,show n.natAbs=n.toNat by omega]
theorem sK {n:Int} (h:I64 n):cN n=some (mkB (Lib.itoa n)):=by
 unfold cN ku R.Nv chk
 rw[if_pos (show -9223372036854775808<=n/\n<=9223372036854775807 from h)];rfl
theorem KD (xs:List (List UInt8)) (y sep:List UInt8):Lib.join (xs++ [y]) sep=if xs= [] then y else Lib.join xs sep++sep++y:=by
 cases xs with
 | nil=>rw[if_pos rfl];exact Lib.join_one _ _
 | cons x r =>
  rw[if_neg (by simp),List.cons_append,Lib.join_cons,Lib.join_cons]
  simp[Lib.joinTail,ah]
end D
namespace D
open Go.RowKit
theorem xN: ∀(a:List UInt8) (acc:Nat) (b:List UInt8),Lib.decFrom acc (a++b)=(Lib.decFrom acc a).bind fun m=>Lib.decFrom m b
 | [],acc,b=>rfl
 | x::a,acc,b=>by
  rw[List.cons_append,Lib.decFrom,Lib.decFrom]
  cases Lib.digitVal x with
  | none=>rfl
  | some d=>exact xN a _ b
theorem KE {d:Nat} (h:d<10):Lib.digitVal (UInt8.ofNat (48+d))=some d:=by
 have e:(UInt8.ofNat (48+d)).toNat=48+d:=by simp;omega
 unfold Lib.digitVal
 rw[e,if_pos ⟨by omega,by omega⟩]
 congr 1;omega
theorem vJ {u:Nat} (h: ¬u<10):Lib.decDigits u=Lib.decDigits (u / 10)++ [UInt8.ofNat (48+u % 10)]:=by rw[Lib.decDigits,dif_neg h]
theorem ED (u:Nat):Lib.decFrom 0 (Lib.decDigits u)=some u:=by
 induction u using Nat.strongRecOn with
 | _ u ih =>
  by_cases h:u<10
  ·rw[Lib.decDigits_one h,Lib.decFrom,KE h]
   simp[Lib.decFrom]
  ·rw[vJ h,xN,ih (u / 10) (by omega),aa,Lib.decFrom,KE (Nat.mod_lt _ (by omega))]
   simp only[Lib.decFrom]
   congr 1;omega
theorem SU (u:Nat):Lib.decDigits u≠ []:=fun h=>by
 have:=Lib.decDigits_length u
 rw[h] at this
 have:=O5 u
 simp at *;omega
theorem zN (u:Nat):Lib.decNat (Lib.decDigits u)=some u:=by
 unfold Lib.decNat
 rw[if_neg (by simpa using SU u),ED]
theorem Gf (u:Nat): ∃d r,d<10/\Lib.decDigits u=UInt8.ofNat (48+d)::r:=by
 induction u using Nat.strongRecOn with
 | _ u ih =>
  by_cases h:u<10
  ·exact ⟨u,[],h,Lib.decDigits_one h⟩
  ·obtain ⟨d,r,hd,e⟩:=ih (u / 10) (by omega)
   exact ⟨d,_,hd,by rw[vJ h,e];rfl⟩
theorem EE {d:Nat} (h:d<10):(UInt8.ofNat (48+d)==45)=false/\(UInt8.ofNat (48+d)==43)=false:=by
 have: ∀d:Fin 10,(UInt8.ofNat (48+d.val)==45)=false/\(UInt8.ofNat (48+d.val)==43)=false:=by decide
 exact this ⟨d,h⟩
theorem KF (n:Int):Lib.atoi (Lib.itoa n)=some n:=by
 unfold Lib.itoa
 by_cases h:n<0
 ·rw[if_pos h]
  show (Lib.decNat (Lib.decDigits n.natAbs)).map (fun (m:Nat)=> -(m:Int))=_
  rw[zN]
  simp;omega
 ·rw[if_neg h]
  obtain ⟨d,r,hd,e⟩:=Gf n.toNat
  have k:=zN n.toNat
  rw[e] at k⊢
  show (if (UInt8.ofNat (48+d)==45)=true then _ else if (UInt8.ofNat (48+d)==43)=true then _ else _)=_
  rw[if_neg (by rw[(EE hd).1];decide),if_neg (by rw[(EE hd).2];decide),k]
  simp;omega
def dst (p:Nat×Nat) (b:UInt8):Nat×Nat:=if 48<=b.toNat/\b.toNat<=57 then (p.1*10+(b.toNat - 48),p.2+1) else p
theorem KG {d:Nat} (h:d<10) (p:Nat×Nat):dst p (UInt8.ofNat (48+d))=(p.1*10+d,p.2+1):=by
 have e:(UInt8.ofNat (48+d)).toNat=48+d:=by simp;omega
 unfold dst
 rw[e,if_pos ⟨by omega,by omega⟩,show 48+d - 48=d by omega]
theorem KH (u:Nat):(Lib.decDigits u).foldl dst (0,0)=(u,Lib.nDigits u):=by
 induction u using Nat.strongRecOn with
 | _ u ih =>
  by_cases h:u<10
  ·rw[Lib.decDigits_one h,List.foldl_cons,List.foldl_nil,KG h,Lib.nDigits_small h];simp
  ·rw[vJ h,List.foldl_append,ih (u / 10) (by omega),List.foldl_cons,List.foldl_nil,KG (Nat.mod_lt _ (by omega)),Lib.nDigits_big h]
   congr 1
   show u / 10*10+u % 10=u
   omega
theorem NI (n:Int):(Lib.itoa n).foldl dst (0,0)=(n.natAbs,Lib.nDigits n.natAbs):=by
 unfold Lib.itoa
 split
 ·rw[List.foldl_cons,show dst (0,0) 45=(0,0) from rfl,KH]
 ·rw[KH,show n.toNat=n.natAbs by omega]
theorem O6: ∀(l:List UInt8) (p:Nat×Nat),p.1<10 ^ p.2->(l.foldl dst p).1<10 ^ (l.foldl dst p).2
 | [],p,h=>h
 | b::l,p,h=>by
  rw[List.foldl_cons]
  refine O6 l _ ?_
  unfold dst
  split
  ·rename_i k
   show p.1*10+(b.toNat - 48)<10 ^ (p.2+1)
   rw[Nat.pow_succ];omega
  ·exact h
theorem O7: ∀(l:List UInt8) (p:Nat×Nat),(l.foldl dst p).2<=p.2+l.length
 | [],p=>by simp
 | b::l,p=>by
  rw[List.foldl_cons]
  have:=O7 l (dst p b)
  have h:(dst p b).2<=p.2+1:=by unfold dst;split <;> simp
  rw[ak];omega
end D
namespace D
open Go.RowKit
theorem SV: ∀(k u:Nat),1<=k->u<10 ^ k->Lib.nDigits u<=k
 | 0,u,h,_=>by omega
 | k+1,u,_,h=>by
  by_cases h1:u<10
  ·rw[Lib.nDigits_small h1];omega
  ·rw[Lib.nDigits_big h1]
   rw[Nat.pow_succ] at h
   have hk:1<=k:=by
    rcases k with _ | k
    ·simp at h;omega
    ·omega
   have:=SV k (u / 10) hk (by omega)
   omega
theorem u8W: ∀d:Fin 10,IntKind.i64.wrap (IntKind.u8.wrap (d.val:Int))=(d.val:Int):=by decide
theorem vK {s:ByteArray} {i:Nat} (h:i<s.size):hY s (i:Int)=some (((s.data.toList[i]'(by simpa using h)).toNat:Nat):Int):=by
 unfold hY chk
 rw[if_pos ⟨by omega,by omega⟩]
 simp only[aa]
 rw[show (i:Int).toNat=i by omega,List.getD_eq_getElem?_getD,List.getElem?_eq_getElem (by simpa using h)]
 rfl
def dtk (s:ByteArray) (i:Nat):Nat×Nat:=(s.data.toList.take i).foldl dst (0,0)
theorem KI (s:ByteArray) (i:Nat):(dtk s i).1<10 ^ (dtk s i).2/\(dtk s i).2<=i:=by
 refine ⟨O6 _ _ (by decide),?_⟩
 have:=O7 (s.data.toList.take i) (0,0)
 rw[aC] at this
 unfold dtk
 omega
theorem Rk (s:ByteArray):aB (fX s) bg (0,0,0)=some (.brk (((dtk s (min s.size 11)).1:Int),((dtk s (min s.size 11)).2:Int),((min s.size 11:Nat):Int))):=by
 refine bK (f:=fX s) (fun i=>(((dtk s i).1:Int),((dtk s i).2:Int),(i:Int))) (min s.size 11) (fun i hi=>?_) ?_ (gg _ (by omega))
 ·have h1:i<s.size:=by omega
  have hl:i<s.data.toList.length:=by simpa using h1
  have hd:dtk s (i+1)=dst (dtk s i) (s.data.toList[i]):=by
   unfold dtk
   rw[List.take_succ_eq_append_getElem hl,List.foldl_append];rfl
  obtain ⟨b1,b2⟩:=KI s i
  have b3:10 ^ (dtk s i).2<=10 ^ 10:=Nat.pow_le_pow_right (by omega) (by omega)
  unfold fX
  simp only[]
  rw[if_pos (decide_eq_true (by omega)),if_pos (decide_eq_true (by omega)),vK h1,hd]
  generalize s.data.toList[i] =b
  generalize dtk s i=p at *
  simp only[aa]
  unfold dst
  by_cases c1:48<=b.toNat
  ·rw[if_pos (decide_eq_true (by omega))]
   by_cases c2:b.toNat<=57
   ·rw[if_pos (decide_eq_true (by omega)),if_pos ⟨c1,c2⟩]
    obtain ⟨d,hd,e⟩: ∃d,d<10/\b.toNat=48+d:=⟨b.toNat - 48,by omega,by omega⟩
    rw[e,show ((48+d:Nat):Int) - 48=(d:Int) by omega,u8W ⟨d,hd⟩]
    simp only[aa]
    rw[dY (n:=(p.1:Int)*10) (by omega) (by omega),dY (by show _<=_+(d:Int);omega) (by show _+(d:Int)<=_;omega),aj (by omega),aj (by omega)]
    congr 4
    show (p.1:Int)*10+(d:Int)=((p.1*10+(48+d - 48):Nat):Int)
    omega
   ·rw[if_neg (by simp;omega),if_neg (by omega)]
    simp only[aa]
    rw[aj (by omega)]
  ·rw[if_neg (by simp;omega),if_neg (by omega)]
   simp only[aa]
   rw[aj (by omega)]
 ·unfold fX
  simp only[]
  by_cases h:s.size<=11
  ·rw[Nat.min_eq_left h,if_neg (by simp)]
  ·rw[Nat.min_eq_right (by omega),if_pos (decide_eq_true (by omega)),if_neg (by simp)]
def sgn (s:ByteArray):Int:=if s.data.toList.head? =some 45 then -((dtk s (min s.size 11)).1:Int) else ((dtk s (min s.size 11)).1:Int)
theorem O8 (s:ByteArray):(sgn s).natAbs<10 ^ (dtk s (min s.size 11)).2/\(sgn s).natAbs<10 ^ 11:=by
 obtain ⟨b1,b2⟩:=KI s (min s.size 11)
 have b3:10 ^ (dtk s (min s.size 11)).2<=10 ^ 11:=Nat.pow_le_pow_right (by omega) (by omega)
 have:(sgn s).natAbs=(dtk s (min s.size 11)).1:=by unfold sgn;split <;> omega
 omega
theorem O9 (s:ByteArray):eW s=if 9<(dtk s (min s.size 11)).2\/10<s.size then some (0,false) else if mkB (Lib.itoa (sgn s))=s then some (sgn s,true) else some (0,false):=by
 have hs:=(O8 s).2
 have hi:I64 (sgn s):=by unfold I64;omega
 obtain ⟨b1,b2⟩:=KI s (min s.size 11)
 have b3:10 ^ (dtk s (min s.size 11)).2<=10 ^ 11:=Nat.pow_le_pow_right (by omega) (by omega)
 have fin: ∀z:Int,z=sgn s->(if decide (((dtk s (min s.size 11)).2:Int)>9) then (some (0,false)) else (if decide (((s.size:Nat):Int)>10) then (some (0,false)) else ((bS z).bind fun r10=>if r10 !=s then (some (0,false)) else (some (z,true)))):Option (Int×Bool))=if 9<(dtk s (min s.size 11)).2\/10<s.size then some (0,false) else if mkB (Lib.itoa (sgn s))=s then some (sgn s,true) else some (0,false):=by
  rintro z rfl
  by_cases c1:9<(dtk s (min s.size 11)).2
  ·rw[if_pos (decide_eq_true (by omega)),if_pos (Or.inl c1)]
  ·rw[if_neg (by simp;omega)]
   by_cases c2:10<s.size
   ·rw[if_pos (decide_eq_true (by omega)),if_pos (Or.inr c2)]
   ·rw[if_neg (by simp;omega),if_neg (by omega),qm hi,aa]
    by_cases c3:mkB (Lib.itoa (sgn s))=s
    ·rw[if_pos c3,if_neg (by simp[c3])]
    ·rw[if_neg c3,if_pos (by simpa using c3)]
 unfold eW
 rw[aD (Rk s)]
 simp only[]
 by_cases h0:0<s.size
 ·rw[if_pos (decide_eq_true (by omega))]
  have hl:0<s.data.toList.length:=by simpa using h0
  have e0:hY s 0=some (((s.data.toList[0]).toNat:Nat):Int):=vK (i:=0) h0
  have eh:s.data.toList.head? =some s.data.toList[0]:=by rw[List.head?_eq_getElem?,List.getElem?_eq_getElem hl]
  rw[e0,aa]
  by_cases c:s.data.toList[0] =45
  ·rw[if_pos (by rw[c];rfl),aa,dY (by omega) (by omega)]
   exact fin _ (by unfold sgn;rw[eh,if_pos (by rw[c])])
  ·have hn:(s.data.toList[0]).toNat≠45:=fun e=>c (UInt8.toNat_inj.1 e)
   rw[if_neg (fun e=>hn (by have:=eq_of_beq e;omega)),aa]
   exact fin _ (by unfold sgn;rw[eh,if_neg (by simpa using c)])
 ·rw[if_neg (by rw[decide_eq_true_eq];omega)]
  have he:s.data.toList.head? =none:=by
   have:s.data.toList= []:=List.eq_nil_of_length_eq_zero (by
    have:s.data.toList.length=s.size:=by simp
    omega)
   rw[this];rfl
  exact fin _ (by unfold sgn;rw[he,if_neg (by simp)])
theorem NJ {n:Int} (h: -999999999<=n/\n<=999999999):Lib.nDigits n.natAbs<=9/\(Lib.itoa n).length<=10:=by
 have k:Lib.nDigits n.natAbs<=9:=SV 9 _ (by omega) (by omega)
 refine ⟨k,?_⟩
 unfold Lib.itoa
 split
 ·rw[ak,Lib.decDigits_length];omega
 ·rw[Lib.decDigits_length,show n.toNat=n.natAbs by omega];omega
theorem KJ (n:Int):((Lib.itoa n).head? =some 45)↔n<0:=by
 unfold Lib.itoa
 split
 ·rename_i h;simp[h]
 ·rename_i h
  obtain ⟨d,r,hd,e⟩:=Gf n.toNat
  rw[e]
  have:=(EE hd).1
  simp only[List.head?_cons,Option.some.injEq]
  constructor
  ·intro k;rw[k] at this;simp at this
  ·intro k;omega
theorem A7 {n:Int} (h: -999999999<=n/\n<=999999999):eW (mkB (Lib.itoa n))=some (n,true)/\eX (mkB (Lib.itoa n))=some (n,true):=by
 obtain ⟨h9,h10⟩:=NJ h
 constructor
 ·have ed:dtk (mkB (Lib.itoa n)) (min (mkB (Lib.itoa n)).size 11)=(n.natAbs,Lib.nDigits n.natAbs):=by
   unfold dtk
   rw[dV,bF,Nat.min_eq_left (by omega),List.take_length,NI]
  have es:sgn (mkB (Lib.itoa n))=n:=by
   unfold sgn
   rw[ed,dV]
   by_cases c:n<0
   ·rw[if_pos ((KJ n).2 c)];show -(n.natAbs:Int)=n;omega
   ·rw[if_neg fun k=>c ((KJ n).1 k)];show (n.natAbs:Int)=n;omega
  rw[O9,ed,es,bF,if_neg (by show¬(9<Lib.nDigits n.natAbs\/_);omega),if_pos rfl]
 ·unfold eX R.pa
  rw[bF,dV,if_neg (by omega),KF]
  show (if _ then _ else _)=_
  rw[if_pos ⟨rfl,h.1,h.2⟩]
theorem Gg {s:ByteArray} (h: ¬ ∃n:Int,(-999999999<=n/\n<=999999999)/\s=mkB (Lib.itoa n)):eW s=some (0,false)/\eX s=some (0,false):=by
 constructor
 ·rw[O9]
  by_cases c:9<(dtk s (min s.size 11)).2\/10<s.size
  ·rw[if_pos c]
  ·rw[if_neg c,if_neg]
   intro e
   have b1:=(O8 s).1
   have b3:10 ^ (dtk s (min s.size 11)).2<=10 ^ 9:=Nat.pow_le_pow_right (by omega) (by omega)
   exact h ⟨sgn s,by omega,e.symm⟩
 ·unfold eX R.pa
  by_cases c:10<s.size
  ·rw[if_pos c]
  ·rw[if_neg c]
   cases ha:Lib.atoi s.data.toList with
   | none=>rfl
   | some n =>
    show (if _ then _ else _)=_
    rw[if_neg fun k=>h ⟨n,k.2,k.1.symm⟩]
theorem nZ (s:ByteArray): ∃r:Int×Bool,eW s=some r/\eX s=some r/\((r.2=true/\(-999999999<=r.1/\r.1<=999999999)/\s=mkB (Lib.itoa r.1))\/r=(0,false)):=by
 by_cases h: ∃n:Int,(-999999999<=n/\n<=999999999)/\s=mkB (Lib.itoa n)
 ·obtain ⟨n,hn,rfl⟩:=h
  exact ⟨_,(A7 hn).1,(A7 hn).2,.inl ⟨rfl,hn,rfl⟩⟩
 ·exact ⟨_,(Gg h).1,(Gg h).2,.inr rfl⟩
end D
namespace D
open Go.RowKit
abbrev AutT:=Int×(List Bool)×(List (List Int))
structure VA (a:AutT) (n:Nat):Prop where
 len:a.2.1.length=n
 start:0<=a.1/\a.1<n
 nlen:a.2.2.length=n
 row: ∀r∈a.2.2,r.length=9
 ent: ∀r∈a.2.2,∀t∈r,-1<=t/\t<n
def mv (a:AutT) (s:Int) (k:Nat):Int:=nth (nth a.2.2 s) k
theorem H2 (x l h:Int):cw x l h=some (decide (l<=x/\x<=h)):=by
 unfold cw
 by_cases c:l<=x
 ·simp[c]
 ·have: ¬l<=x/\True:=⟨c,trivial⟩
  simp[c]
theorem Dm (x l h:Int):bQ x l h=some (decide (l<=x/\x<=h)):=by
 unfold bQ
 by_cases c:l<=x
 ·simp[c]
 ·simp[c]
theorem scan {α R:Type} [Inhabited α] {f:Int->Option (Out R Int)} (xs:List α) (p:α->Prop) [DecidablePred p] (r:R) (hN:xs.length<=9223372036854775807)
  (h: ∀i:Nat,i<xs.length->f (i:Int)=some (if p (nth xs i) then .nxt ((i+1:Nat):Int) else .ret r)) (he:f (xs.length:Int)=some (.brk (xs.length:Int))) :
  (aB f bg 0=some (.brk (xs.length:Int))/\ ∀x∈xs,p x)\/(aB f bg 0=some (.ret r)/\ ¬ ∀x∈xs,p x):=by
 obtain ⟨o,e,hq⟩:=cO (f:=f) (fun i s=>s=(i:Int)/\ ∀j:Nat,j<i->p (nth xs j)) (fun o=>(o= .brk (xs.length:Int)/\ ∀x∈xs,p x)\/(o= .ret r/\ ¬ ∀x∈xs,p x)) xs.length (s:=0) (by
  rintro i s hi ⟨rfl,hp⟩
  by_cases hl:i<xs.length
  ·by_cases c:p (nth xs i)
   ·refine .inl ⟨hl,_,by rw[h i hl,if_pos c],rfl,fun j hj=>?_⟩
    by_cases e:j=i
    ·subst e;exact c
    ·exact hp j (by omega)
   ·refine .inr ⟨_,by rw[h i hl,if_neg c],(fun s' e=>by cases e),.inr ⟨rfl,fun hx=>c (hx _ (jj (by omega) (by omega)))⟩⟩
  ·obtain rfl:i=xs.length:=by omega
   refine .inr ⟨_,he,(fun s' e=>by cases e),.inl ⟨rfl,fun x hx=>?_⟩⟩
   obtain ⟨j,hj,rfl⟩:=EC hx
   exact hp j hj) ⟨rfl,by omega⟩ (rH hN)
 rcases hq with ⟨rfl,hq⟩ | ⟨rfl,hq⟩
 ·exact .inl ⟨e,hq⟩
 ·exact .inr ⟨e,hq⟩
section
variable {a:AutT} {n:Nat} (V:VA a n)
include V
theorem VA.pos:0<n:=by have:=V.start;omega
theorem VA.rowAt {s:Int} (h0:0<=s) (h1:s<n):(nth a.2.2 s).length=9:=V.row _ (jj h0 (by rw[V.nlen];exact h1))
theorem VA.mv {s:Int} {k:Nat} (h0:0<=s) (h1:s<n) (hk:k<9): -1<=mv a s k/\mv a s k<n:=
 V.ent _ (jj h0 (by rw[V.nlen];exact h1)) _ (jj (by omega) (by rw[V.rowAt h0 h1];omega))
theorem VA.get {s:Int} (h0:0<=s) (h1:s<n):aY a.2.2 s=some (nth a.2.2 s):=aK h0 (by rw[V.nlen];exact h1)
theorem VA.get2 {s:Int} {k:Nat} (h0:0<=s) (h1:s<n) (hk:k<9):aY (nth a.2.2 s) (k:Int)=some (D.mv a s k):=aK (by omega) (by rw[V.rowAt h0 h1];omega)
theorem VA.acc {s:Int} (h0:0<=s) (h1:s<n):aY a.2.1 s=some (nth a.2.1 s):=aK h0 (by rw[V.len];exact h1)
theorem SW {s:Int} {k:Nat} (h0:0<=s) (h1:s<n) (hk:k<9):dP a s (k:Int)=some (mv a s k):=by
 unfold dP ir
 rw[if_neg (by simp;omega),Dm];simp only[aa]
 rw[if_pos (by simp;omega),V.get h0 h1];simp only[aa]
 rw[V.get2 h0 h1 hk];rfl
end
end D
namespace D
open Go.RowKit
theorem A8 (s:ByteArray):eV s=iw s:=by
 have e:eP s=lq s:=by
  funext p
  unfold eP lq
  rw[Int.mul_comm p.1 257]
 unfold eV iw
 rw[e]
theorem C8 (s:ByteArray) (h:s.size<=9223372036854775806): ∃r:Int,eV s=some r/\iw s=some r/\0<=r/\r<=9972:=by
 obtain ⟨p,e,h1,h2,h3⟩:=lI (f:=eP s) (fun i p=>p.2=(i:Int)/\0<=p.1/\p.1<=9972) s.size (fun i p hi hI=>by
  obtain ⟨n,j⟩:=p
  obtain ⟨h1,h2,h3⟩:=hI
  simp only at h1 h2 h3
  subst h1
  unfold eP
  simp only[]
  rw[if_pos (decide_eq_true (by omega)),vK hi]
  simp only[aa]
  generalize s.data.toList[i] =b
  have hb:b.toNat<256:=b.toNat_lt
  rw[dY (n:=((b.toNat:Nat):Int)) (by omega) (by omega),dY (n:=n*257) (by omega) (by omega),dY (n:=n*257+(b.toNat:Int)) (by omega) (by omega),dY (n:=n*257+(b.toNat:Int)+1) (by omega) (by omega),aj (by omega)]
  refine ⟨_,rfl,rfl,?_,?_⟩
  ·exact Int.tmod_nonneg _ (by omega)
  ·have:Int.tmod (n*257+(b.toNat:Int)+1) 9973<9973:=Int.tmod_lt_of_pos _ (by decide)
   show Int.tmod (n*257+(b.toNat:Int)+1) 9973<=9972
   omega) (fun p hI=>by
  obtain ⟨n,j⟩:=p
  obtain ⟨h1,-⟩:=hI
  simp only at h1
  subst h1
  unfold eP
  simp only[]
  rw[if_neg (by simp)]) (s:=(1,0)) ⟨rfl,by decide,by decide⟩ (gg _ (by omega))
 have k:eV s=some p.1:=by
  unfold eV
  rw[aD e]
 exact ⟨p.1,k,by rw[<-A8];exact k,h2,h3⟩
def edOk (e:Int×Int×Int×Int):Prop:=(1<=e.1/\e.1<=99)/\(0<=e.2.1/\e.2.1<=4)/\(0<=e.2.2.1/\e.2.2.1<=4)/\(0<=e.2.2.2/\e.2.2.2<=2)
instance (e:Int×Int×Int×Int):Decidable (edOk e):=inferInstanceAs (Decidable (_/\_))
def pN (e:Int×Int×Int×Int):List UInt8:=Lib.itoa e.1++ [58] ++Lib.itoa e.2.1++ [UInt8.ofNat (97+e.2.2.2.toNat)] ++Lib.itoa e.2.2.1
theorem NK: ∀k:Fin 3,dH (IntKind.i64.wrap (2*(k.val:Int)))=some (mkB [UInt8.ofNat (97+k.val)]):=by
 intro k
 match k with
 | ⟨0,_⟩=>rfl
 | ⟨1,_⟩=>rfl
 | ⟨2,_⟩=>rfl
theorem NL: ∀k:Fin 3,mr (⟨#[97,98,99]⟩) (k.val:Int) (IntKind.i64.wrap ((k.val:Int)+1))=some (mkB [UInt8.ofNat (97+k.val)]):=by
 intro k
 match k with
 | ⟨0,_⟩=>rfl
 | ⟨1,_⟩=>rfl
 | ⟨2,_⟩=>rfl
theorem KK (e:Int×Int×Int×Int):gL e=some (if edOk e then mkB (pN e) else mkB []):=by
 unfold gL
 rw[H2,H2,H2,H2]
 simp only[aa]
 by_cases h:edOk e
 ·obtain ⟨h1,h2,h3,h4⟩:=h
  rw[if_pos (decide_eq_true h1),if_pos (decide_eq_true h2),if_pos (decide_eq_true h3),if_pos (decide_eq_true h4),if_pos ⟨h1,h2,h3,h4⟩]
  have i1:I64 e.1:=by unfold I64;omega
  have i2:I64 e.2.1:=by unfold I64;omega
  have i3:I64 e.2.2.1:=by unfold I64;omega
  have n1:=oJ i1
  have n2:=oJ i2
  have n3:=oJ i3
  obtain ⟨k,hk,ek⟩: ∃k:Nat,k<3/\e.2.2.2=(k:Int):=⟨e.2.2.2.toNat,by omega,by omega⟩
  rw[qm i1,qm i2,qm i3,ek,NK ⟨k,hk⟩]
  simp only[aa]
  have c1:kp (mkB (Lib.itoa e.1)) (⟨#[58]⟩)=some (mkB (Lib.itoa e.1++ [58])):=A6 _ [58] (by simp;omega)
  rw[c1]
  simp only[aa]
  rw[A6 _ _ (by simp;omega)]
  simp only[aa]
  rw[A6 _ _ (by simp;omega)]
  simp only[aa]
  rw[A6 _ _ (by simp;omega)]
  simp only[aa]
  unfold pN
  rw[ek];rfl
 ·rw[if_neg h]
  split
  ·split
   ·split
    ·split
     ·rename_i a b c d
      exact absurd ⟨of_decide_eq_true a,of_decide_eq_true b,of_decide_eq_true c,of_decide_eq_true d⟩ h
     ·rfl
    ·rfl
   ·rfl
  ·rfl
theorem KL (e:Int×Int×Int×Int):gM e=some (if edOk e then mkB (pN e) else mkB []):=by
 have h5:IntKind.i64.wrap (5 - 1)=4:=by decide
 have hok:im (e.1,e.2.1,e.2.2.1,e.2.2.2) 5=some (decide (edOk e)):=by
  unfold im
  rw[h5,Dm,Dm,Dm,Dm]
  simp only[aa]
  by_cases h1:1<=e.1/\e.1<=99
  ·rw[if_pos (decide_eq_true h1)]
   by_cases h2:0<=e.2.1/\e.2.1<=4
   ·rw[if_pos (decide_eq_true h2)]
    by_cases h3:0<=e.2.2.1/\e.2.2.1<=4
    ·rw[if_pos (decide_eq_true h3)]
     congr 1
     exact decide_eq_decide.2 ⟨fun h4=>⟨h1,h2,h3,h4⟩,fun h=>h.2.2.2⟩
    ·rw[if_neg (by simpa using h3),decide_eq_false (fun h:edOk e=>h3 h.2.2.1)]
   ·rw[if_neg (by simpa using h2),decide_eq_false (fun h:edOk e=>h2 h.2.1)]
  ·rw[if_neg (by simpa using h1),decide_eq_false (fun h:edOk e=>h1 h.1)]
 unfold gM
 rw[hok]
 simp only[aa]
 by_cases h:edOk e
 ·rw[if_pos (decide_eq_true h),if_pos h]
  obtain ⟨h1,h2,h3,h4⟩:=h
  have i1:I64 e.1:=by unfold I64;omega
  have i2:I64 e.2.1:=by unfold I64;omega
  have i3:I64 e.2.2.1:=by unfold I64;omega
  have n1:=oJ i1
  have n2:=oJ i2
  have n3:=oJ i3
  obtain ⟨k,hk,ek⟩: ∃k:Nat,k<3/\e.2.2.2=(k:Int):=⟨e.2.2.2.toNat,by omega,by omega⟩
  rw[sK i1,sK i2,sK i3,ek,NL ⟨k,hk⟩]
  simp only[aa]
  have c1:kp (mkB (Lib.itoa e.1)) (⟨#[58]⟩)=some (mkB (Lib.itoa e.1++ [58])):=A6 _ [58] (by simp;omega)
  rw[c1]
  simp only[aa]
  rw[A6 _ _ (by simp;omega)]
  simp only[aa]
  rw[A6 _ _ (by simp;omega)]
  simp only[aa]
  rw[A6 _ _ (by simp;omega)]
  simp only[aa]
  unfold pN
  rw[ek];rfl
 ·rw[if_neg (by simpa using h),if_neg h];rfl
end D
namespace D
open Go.RowKit
abbrev ChT:Type:=Bool×Int×Int×Int×Int
def mD (c:ChT):List UInt8:=(if c.1 then 43 else 45)::pN c.2
def btx (l:List ChT):List UInt8:=Lib.join (l.map mD) [32]
def vL (l:List ChT):Prop:= ∀c,c∈l->edOk c.2
theorem qn {e:Int×Int×Int×Int} (h:edOk e):(pN e).length<=70:=by
 obtain ⟨h1,h2,h3,h4⟩:=h
 have n1:=oJ (n:=e.1) (by unfold I64;omega)
 have n2:=oJ (n:=e.2.1) (by unfold I64;omega)
 have n3:=oJ (n:=e.2.2.1) (by unfold I64;omega)
 unfold pN
 simp only[aq,ak,aH];omega
theorem KM (e:Int×Int×Int×Int):(mkB (pN e)==(⟨#[]⟩:ByteArray))=false:=by
 rw[beq_eq_false_iff_ne]
 intro k
 have:=congrArg ByteArray.size k
 rw[bF] at this
 unfold pN at this
 simp only[aq,ak,aH] at this
 have e0:(⟨#[]⟩:ByteArray).size=0:=rfl
 omega
theorem KN: ∀(r:List ChT),vL r->(Lib.joinTail [32] (r.map mD)).length<=72*r.length
 | [],_=>by simp[Lib.joinTail]
 | c::r,h=>by
  have h1:=KN r fun q hq=>h q (be _ hq)
  have h2:=qn (h c (by simp))
  have e:Lib.joinTail [32] ((c::r).map mD)=([32] ++mD c)++Lib.joinTail [32] (r.map mD):=by simp[Lib.joinTail]
  rw[e,aq,aq,ak]
  unfold mD
  simp only[ak,aH]
  unfold mD at h1
  omega
theorem A9 {l:List ChT} (h:vL l):(btx l).length<=72*l.length:=by
 cases l with
 | nil=>simp[btx,Lib.join_nil]
 | cons c r =>
  have h1:=KN r fun q hq=>h q (be _ hq)
  have h2:=qn (h c (by simp))
  unfold btx
  rw[List.map_cons,Lib.join_cons,aq,ak]
  have:(mD c).length=(pN c.2).length+1:=by unfold mD;rw[ak]
  omega
theorem NM {l:List ChT} {i:Nat} (hi:i<l.length):btx (l.take (i+1))=if i=0 then mD l[i] else btx (l.take i)++ [32] ++mD l[i]:=by
 unfold btx
 rw[List.take_succ_eq_append_getElem hi,aM,List.map_cons,List.map_nil,KD]
 by_cases h:i=0
 ·subst h;rw[if_pos (by simp),if_pos rfl]
 ·rw[if_neg (by
   intro e
   have:=congrArg List.length e
   rw[List.length_map,aC,aH] at this
   omega),if_neg h]
theorem C9 {l:List ChT} {i:Nat} (hi:i<l.length) (h:vL (l.take i)) (k:edOk l[i].2):vL (l.take (i+1)):=by
 rw[List.take_succ_eq_append_getElem hi]
 intro c hc
 rcases aG hc with hc | hc
 ·exact h c hc
 ·obtain rfl:=aw hc;exact k
theorem Rl {l:List ChT} (hl:l.length<=6):(vL l/\aB (dR l) bg (([] :List ByteArray),0)=some (.brk (l.map (fun c=>mkB (mD c)),(l.length:Int))))\/(¬vL l/\aB (dR l) bg (([] :List ByteArray),0)=some (.ret (mkB []))):=by
 obtain ⟨o,e,hQ⟩:=cO (f:=dR l) (fun i s=>s=((l.take i).map (fun c=>mkB (mD c)),(i:Int))/\vL (l.take i)) (fun o=>(vL l/\o= .brk (l.map (fun c=>mkB (mD c)),(l.length:Int)))\/(¬vL l/\o= .ret (mkB []))) l.length (fun i s hi hI=>by
  obtain ⟨rfl,hb⟩:=hI
  unfold dR
  simp only[]
  by_cases h1:i<l.length
  ·rw[bO h1,if_pos rfl,aF h1]
   simp only[aa]
   rw[KL]
   simp only[aa]
   by_cases k:edOk l[i].2
   ·have n1:=qn k
    have c1:kp (⟨#[43]⟩) (mkB (pN l[i].2))=some (mkB (43::pN l[i].2)):=A6 [43] _ (by simp;omega)
    have c2:kp (⟨#[45]⟩) (mkB (pN l[i].2))=some (mkB (45::pN l[i].2)):=A6 [45] _ (by simp;omega)
    have hx: ∀z:ByteArray,di 16 ((l.take i).map (fun c=>mkB (mD c))) [z] =some ((l.take i).map (fun c=>mkB (mD c))++ [z]):=fun z=>aQ (by rw[List.length_map,aC];simp only[ak,aH];omega)
    refine .inl ⟨h1,((l.take (i+1)).map (fun c=>mkB (mD c)),((i+1:Nat):Int)),?_,rfl,C9 h1 hb k⟩
    rw[if_pos k,if_neg (by rw[KM];decide),c1,c2]
    simp only[aa]
    rw[hx,hx,List.take_succ_eq_append_getElem h1,aM,List.map_cons,List.map_nil,<-aj (show i<9223372036854775807 by omega)]
    have ec:mD l[i] =(if l[i].1=true then 43 else 45)::pN l[i].2:=rfl
    rw[ec]
    generalize l[i].1=t
    cases t <;> rfl
   ·refine .inr ⟨.ret (mkB []),?_,fun s' h=>(by simp at h),.inr ⟨fun h=>k (h _ (List.getElem_mem h1)),rfl⟩⟩
    rw[if_neg k];rfl
  ·obtain rfl:i=l.length:=by omega
   rw[List.take_length] at hb
   refine .inr ⟨_,by rw[bG];rfl,fun s' h=>(by simp at h),.inl ⟨hb,by rw[List.take_length]⟩⟩) (s:=([],0)) ⟨rfl,fun c hc=>by simp at hc⟩ (gg _ (by omega))
 rcases hQ with ⟨h,rfl⟩ | ⟨h,rfl⟩
 ·exact .inl ⟨h,e⟩
 ·exact .inr ⟨h,e⟩
theorem Rm {l:List ChT} (hl:l.length<=6):(vL l/\aB (dM l) bg ((⟨#[]⟩:ByteArray),0)=some (.brk (mkB (btx l),(l.length:Int))))\/(¬vL l/\aB (dM l) bg ((⟨#[]⟩:ByteArray),0)=some (.ret (mkB []))):=by
 obtain ⟨o,e,hQ⟩:=cO (f:=dM l) (fun i s=>s=(mkB (btx (l.take i)),(i:Int))/\vL (l.take i)) (fun o=>(vL l/\o= .brk (mkB (btx l),(l.length:Int)))\/(¬vL l/\o= .ret (mkB []))) l.length (fun i s hi hI=>by
  obtain ⟨rfl,hb⟩:=hI
  have hn:=A9 hb
  rw[aC] at hn
  unfold dM
  simp only[]
  by_cases h1:i<l.length
  ·rw[bO h1,if_pos rfl,aF h1]
   simp only[aa]
   rw[KK]
   simp only[aa]
   by_cases k:edOk l[i].2
   ·have n1:=qn k
    refine .inl ⟨h1,(mkB (btx (l.take (i+1))),((i+1:Nat):Int)),?_,rfl,C9 h1 hb k⟩
    rw[if_pos k,if_neg (by rw[KM];decide),NM h1,<-aj (show i<9223372036854775807 by omega)]
    have ec:mD l[i] =(if l[i].1=true then 43 else 45)::pN l[i].2:=rfl
    rw[ec]
    generalize l[i].1=t
    have g1: ∀(a:List UInt8) (b:UInt8),a.length<=1000->kp (mkB a) (mkB [b])=some (mkB (a++ [b])):=fun a b ha=>A6 _ _ (by simp;omega)
    have g2: ∀(a:List UInt8) (b:UInt8),a.length<=1000->kp (mkB (a++ [b])) (mkB (pN l[i].2))=some (mkB (a++b::pN l[i].2)):=fun a b ha=>by
     rw[A6 _ _ (by simp;omega),ah];rfl
    by_cases h0:i=0
    ·subst h0
     have eb:btx (l.take 0)= []:=rfl
     have q1:=g1 [] 43 (by simp)
     have q2:=g1 [] 45 (by simp)
     have q3:=g2 [] 43 (by simp)
     have q4:=g2 [] 45 (by simp)
     have l1:(⟨#[43]⟩:ByteArray)=mkB [43]:=rfl
     have l2:(⟨#[45]⟩:ByteArray)=mkB [45]:=rfl
     rw[eb,if_pos rfl,if_neg (by simp)]
     simp only[aa]
     rw[l1,l2,q1,q2]
     simp only[aa]
     rw[q3,q4]
     cases t <;> rfl
    ·have hs:=g1 (btx (l.take i)) 32 (by omega)
     have q1:=g1 (btx (l.take i)++ [32]) 43 (by simp;omega)
     have q2:=g1 (btx (l.take i)++ [32]) 45 (by simp;omega)
     have q3:=g2 (btx (l.take i)++ [32]) 43 (by simp;omega)
     have q4:=g2 (btx (l.take i)++ [32]) 45 (by simp;omega)
     have l1:(⟨#[43]⟩:ByteArray)=mkB [43]:=rfl
     have l2:(⟨#[45]⟩:ByteArray)=mkB [45]:=rfl
     have l3:(⟨#[32]⟩:ByteArray)=mkB [32]:=rfl
     rw[if_neg h0,if_pos (decide_eq_true (by omega)),l1,l2,l3,hs]
     simp only[aa]
     rw[q1,q2]
     simp only[aa]
     rw[q3,q4]
     cases t <;> rfl
   ·refine .inr ⟨.ret (mkB []),?_,fun s' h=>(by simp at h),.inr ⟨fun h=>k (h _ (List.getElem_mem h1)),rfl⟩⟩
    rw[if_neg k];rfl
  ·obtain rfl:i=l.length:=by omega
   rw[List.take_length] at hb
   refine .inr ⟨_,by rw[bG];rfl,fun s' h=>(by simp at h),.inl ⟨hb,by rw[List.take_length]⟩⟩) (s:=((⟨#[]⟩:ByteArray),0)) ⟨rfl,fun c hc=>by simp at hc⟩ (gg _ (by omega))
 rcases hQ with ⟨h,rfl⟩ | ⟨h,rfl⟩
 ·exact .inl ⟨h,e⟩
 ·exact .inr ⟨h,e⟩
open Classical in
theorem qo (l:List ChT):cB l=some (if l.length<=6/\vL l then mkB (btx l) else mkB [])/\dx l=some (if l.length<=6/\vL l then mkB (btx l) else mkB []):=by
 unfold cB dx
 by_cases h6:l.length<=6
 ·have hd: ¬decide ((l.length:Int)>6)=true:=by rw[decide_eq_true_eq];omega
  constructor
  ·rw[if_neg hd]
   rcases Rm h6 with ⟨h,e⟩ | ⟨h,e⟩
   ·rw[aD e,if_pos ⟨h6,h⟩]
   ·rw[cv e,if_neg fun k=>h k.2]
  ·rw[if_neg hd]
   rcases Rl h6 with ⟨h,e⟩ | ⟨h,e⟩
   ·have hn:=A9 h
    rw[aD e,if_pos ⟨h6,h⟩]
    show (gT (l.map fun p=>mkB (mD p)) (mkB [32])).bind _=_
    unfold gT R.Nu chk
    have e:(l.map fun p=>mkB (mD p)).map (·.data.toList)=l.map mD:=by
     rw[List.map_map]
     exact List.map_congr_left fun p _=>dV _
    rw[e,dV,List.length_map,if_pos ⟨by omega,by show (btx l).length<=_;omega⟩];rfl
   ·rw[cv e,if_neg fun k=>h k.2]
 ·have hd:decide ((l.length:Int)>6)=true:=decide_eq_true (by omega)
  constructor
  ·rw[if_pos hd,if_neg fun k=>h6 k.1];rfl
  ·rw[if_pos hd,if_neg fun k=>h6 k.1];rfl
end D
namespace D
open Go.RowKit
theorem xO (v:Int) (l:List ChT): ∃r:ByteArray,dI v l=some r/\fA v l=some r/\r.size<=1000:=by
 obtain ⟨es,ei⟩:=qo l
 obtain ⟨t,et,hn⟩: ∃t:List UInt8,(cB l=some (mkB t)/\dx l=some (mkB t))/\t.length<=432:=by
  by_cases h:l.length<=6/\vL l
  ·have:=A9 h.2
   refine ⟨btx l,⟨?_,?_⟩,by omega⟩
   ·rw[es,if_pos h]
   ·rw[ei,if_pos h]
  ·refine ⟨[],⟨?_,?_⟩,by simp⟩
   ·rw[es,if_neg h]
   ·rw[ei,if_neg h]
 obtain ⟨e1,e2⟩:=et
 unfold dI fA
 rw[e1,e2,H2,Dm]
 simp only[aa]
 by_cases hv:1<=v/\v<=999
 ·have iv:I64 v:=by unfold I64;omega
  have nv:=oJ iv
  have c1:kp (mkB (Lib.itoa v)) (⟨#[59]⟩)=some (mkB (Lib.itoa v++ [59])):=A6 _ [59] (by simp;omega)
  have c2:kp (mkB (Lib.itoa v++ [59])) (mkB t)=some (mkB (Lib.itoa v++ [59] ++t)):=A6 _ _ (by simp;omega)
  have c3:kp (mkB (Lib.itoa v++ [59] ++t)) (⟨#[59]⟩)=some (mkB (Lib.itoa v++ [59] ++t++ [59])):=A6 _ [59] (by simp;omega)
  obtain ⟨q,k1,k2,q1,q2⟩:=C8 (mkB (Lib.itoa v++ [59] ++t++ [59])) (by rw[bF];simp;omega)
  have iq:I64 q:=by unfold I64;omega
  have nq:=oJ iq
  have c4:kp (mkB (Lib.itoa v++ [59] ++t++ [59])) (mkB (Lib.itoa q))=some (mkB (Lib.itoa v++ [59] ++t++ [59] ++Lib.itoa q)):=A6 _ _ (by simp;omega)
  have c5:kp (mkB (Lib.itoa v++ [59] ++t++ [59] ++Lib.itoa q)) (⟨#[10]⟩)=some (mkB (Lib.itoa v++ [59] ++t++ [59] ++Lib.itoa q++ [10])):=A6 _ [10] (by simp;omega)
  have hs:(mkB (Lib.itoa v++ [59] ++t++ [59] ++Lib.itoa q++ [10])).size<=1000:=by rw[bF];simp;omega
  have h0:((⟨#[]⟩:ByteArray)).size<=1000:=by decide
  rw[decide_eq_true hv]
  simp only[if_true,qm iv,sK iv,qm iq,sK iq,c1,c2,c3,k1,k2,c4,c5,aa]
  by_cases a:decide ((l.length:Int)>0)=true
  ·by_cases b:(mkB t==(⟨#[]⟩:ByteArray))=true
   ·simp only[if_pos a,if_pos b];exact ⟨_,rfl,rfl,h0⟩
   ·simp only[if_pos a,if_neg b];exact ⟨_,rfl,rfl,hs⟩
  ·by_cases b:(mkB t==(⟨#[]⟩:ByteArray))=true
   ·simp only[if_neg a,if_pos b];exact ⟨_,rfl,rfl,hs⟩
   ·simp only[if_neg a,if_neg b];exact ⟨_,rfl,rfl,hs⟩
 ·rw[decide_eq_false hv]
  exact ⟨_,rfl,rfl,by decide⟩
end D
namespace D
open Go.RowKit
def mE (c:UInt8) (cur:List UInt8):List UInt8->List (List UInt8)
 | [] =>[cur]
 | b::l=>if b=c then cur::mE c [] l else mE c (cur++ [b]) l
theorem lK {c:UInt8} : ∀ {l cur:List UInt8},c∉l->mE c cur l= [cur++l]
 | [],cur,_=>by simp[mE]
 | b::l,cur,h=>by
  have hb:b≠c:=fun e=>h (by simp[e])
  rw[mE,if_neg hb,lK fun k=>h (be _ k)]
  simp
theorem n7 {c:UInt8} : ∀ {a cur r:List UInt8},c∉a->mE c cur (a++c::r)=(cur++a)::mE c [] r
 | [],cur,r,_=>by simp[mE]
 | b::a,cur,r,h=>by
  have hb:b≠c:=fun e=>h (by simp[e])
  rw[List.cons_append,mE,if_neg hb,n7 fun k=>h (be _ k)]
  simp
theorem Ba (c:UInt8): ∀(l cur:List UInt8),(mE c cur l).length<=l.length+1
 | [],cur=>by simp[mE]
 | b::l,cur=>by
  rw[mE]
  split
  ·have:=Ba c l [];simp only[ak];omega
  ·have:=Ba c l (cur++ [b]);simp only[ak];omega
theorem pO (c:UInt8): ∀(l cur:List UInt8),∀x∈mE c cur l,x.length<=cur.length+l.length
 | [],cur,x,h=>by simp[mE] at h;subst h;simp
 | b::l,cur,x,h=>by
  rw[mE] at h
  split at h
  ·rcases aA h with rfl | h
   ·simp
   ·have:=pO c l [] x h;simp at this;simp;omega
  ·have:=pO c l _ x h;simp at this;simp;omega
theorem qp (c:UInt8) (l:List UInt8):c∉l\/ ∃a r,l=a++c::r/\c∉a:=by
 by_cases h:c∈l
 ·obtain ⟨a,r,e,k⟩:=List.eq_append_cons_of_mem h
  exact .inr ⟨a,r,e,k⟩
 ·exact .inl h
theorem Bb (s:ByteArray):mkB s.data.toList=s:=by simp[mkB]
theorem Pa (s:ByteArray): ∃l:List UInt8,s=mkB l:=⟨_,(Bb s).symm⟩
theorem tX {a b:List UInt8} (h:mkB a=mkB b):a=b:=by rw[<-dV a,h,dV]
theorem slB {l:List UInt8} {a b:Nat} (h1:a<=b) (h2:b<=l.length):mr (mkB l) (a:Int) (b:Int)=some (mkB ((l.take b).drop a)):=by
 unfold mr chk
 rw[bF,if_pos ⟨by omega,by omega,by omega⟩,aa]
 congr 1
 refine ByteArray.ext ?_
 simp[mkB,List.drop_take]
theorem atB {l:List UInt8} {i:Nat} (h:i<l.length):hY (mkB l) (i:Int)=some ((l[i].toNat:Nat):Int):=by
 rw[vK (by rw[bF];exact h)]
 simp[mkB]
theorem sL (l:List UInt8) (c:UInt8) (hl:l.length<=1000000):fW (mkB l) ((c.toNat:Nat):Int)=some ((mE c [] l).map mkB):=by
 obtain ⟨s,e,fr,done,rfl,h1,h2,h3⟩:=lI (f:=lZ (mkB l) ((c.toNat:Nat):Int)) (fun i s=> ∃(fr:Nat) (done:List (List UInt8)),s=(done.map mkB,(fr:Int),(i:Int))/\fr<=i/\done.length<=i/\done++mE c ((l.take i).drop fr) (l.drop i)=mE c [] l) l.length (fun i s hi hI=>by
  obtain ⟨fr,done,rfl,h1,h2,h3⟩:=hI
  unfold lZ
  simp only[]
  rw[if_pos (decide_eq_true (by rw[bF];omega)),atB hi]
  simp only[aa]
  rw[List.drop_eq_getElem_cons hi,mE] at h3
  by_cases k:l[i] =c
  ·rw[if_pos k] at h3
   rw[if_pos (by rw[k];simp),slB h1 (by omega)]
   simp only[aa]
   have hx:di 16 (done.map mkB) [mkB ((l.take i).drop fr)] =some (done.map mkB++ [mkB ((l.take i).drop fr)]):=aQ (by rw[List.length_map];simp only[ak,aH];omega)
   rw[hx]
   simp only[aa]
   refine ⟨_,rfl,i+1,done++ [(l.take i).drop fr],?_,az _,by simp;omega,?_⟩
   ·rw[aM,List.map_cons,List.map_nil,aj (by omega)]
   ·rw[<-h3,ah,List.drop_of_length_le (l:=l.take (i+1)) (by rw[aC];omega)];rfl
  ·rw[if_neg k] at h3
   rw[if_neg (fun e=>k (UInt8.toNat_inj.1 (by have:=eq_of_beq e;omega)))]
   simp only[aa]
   refine ⟨_,rfl,fr,done,?_,by omega,by omega,?_⟩
   ·rw[aj (by omega)]
   ·rw[<-h3,List.take_succ_eq_append_getElem hi,List.drop_append_of_le_length (by rw[aC];omega)]) (fun s hI=>by
  obtain ⟨fr,done,rfl,h1,h2,h3⟩:=hI
  unfold lZ
  simp only[]
  rw[if_neg (by rw[bF];simp)]) (s:=(([] :List ByteArray),0,0)) ⟨0,[],rfl,az _,az _,by simp⟩ (gg _ (by omega))
 unfold fW
 rw[aD e,bF]
 simp only[]
 rw[slB h1 (az _)]
 simp only[aa]
 have hx:di 16 (done.map mkB) [mkB ((l.take l.length).drop fr)] =some (done.map mkB++ [mkB ((l.take l.length).drop fr)]):=aQ (by rw[List.length_map];simp only[ak,aH];omega)
 rw[hx,<-h3,List.drop_length,mE]
 simp
theorem Bc {c:UInt8} : ∀ {l:List UInt8},c∉l->Lib.index l [c] = -1
 | [],_=>rfl
 | b::l,h=>by
  have hb:c≠b:=fun e=>h (by simp[e])
  have k:([c] :List UInt8).isPrefixOf (b::l)=false:=by simp[List.isPrefixOf,hb]
  rw[Lib.index,k,Bc fun k=>h (be _ k)];rfl
theorem Bd {c:UInt8} : ∀ {a r:List UInt8},c∉a->Lib.index (a++c::r) [c] =(a.length:Int)
 | [],r,_=>by simp[Lib.index,List.isPrefixOf]
 | b::a,r,h=>by
  have hb:c≠b:=fun e=>h (by simp[e])
  have k:([c] :List UInt8).isPrefixOf (b::(a++c::r))=false:=by simp[List.isPrefixOf,hb]
  rw[List.cons_append,Lib.index,k,Bd fun k=>h (be _ k)]
  rw[if_neg (by decide),if_neg (by rw[beq_iff_eq];omega),ak];omega
theorem Da (c:UInt8): ∀(n:Nat) (l:List UInt8),l.length<=n->Lib.splitK [c] 0 (Lib.count l [c]) l=mE c [] l
 | n,l,h=>by
  rcases qp c l with k | ⟨a,r,rfl,k⟩
  ·have e:=Bc k
   rw[Lib.count_miss e,lK k];rfl
  ·have e:=Bd (r:=r) k
   have hd:(a++c::r).drop (a.length+1)=r:=by
    rw[<-List.drop_drop,List.drop_left];rfl
   rw[Lib.count_hit (by simp) e,n7 k,Nat.add_comm 1,Lib.splitK,e,if_neg (by rw[beq_iff_eq];omega)]
   show List.take (a.length+0) _::Lib.splitK [c] 0 (Lib.count ((a++c::r).drop (a.length+1)) [c]) ((a++c::r).drop (a.length+1))=_
   rw[hd,Nat.add_zero,List.take_left]
   cases n with
   | zero=>simp at h
   | succ n=>rw[Da c n r (by simp at h;omega)];rfl
theorem Be (l:List UInt8) (c:UInt8) (hl:l.length<=1000000):cr (mkB l) (mkB [c])=some ((mE c [] l).map mkB):=by
 unfold cr R.FX chk
 rw[bF,bF,if_pos ⟨by omega,by simp⟩,aa]
 congr 1
 have e:=Lib.splitB_data (mkB [c]) 0 (Lib.countB (mkB l) (mkB [c])) (mkB l)
 rw[dV,dV] at e
 have e2:Lib.countB (mkB l) (mkB [c])=Lib.count l [c]:=by unfold Lib.countB;rw[dV,dV]
 rw[e2,Da c l.length l (az _)] at e
 rw[e2,<-e,List.map_map]
 conv=>lhs;rw[<-List.map_id (Lib.splitB _ _ _ _)]
 exact List.map_congr_left fun x _=>(Bb x).symm
theorem NN {l:List UInt8} {c:UInt8} (hl:l.length<=1000000) (h:c∉l):cE (mkB l) (mkB [c])=some (mkB l,mkB [],false):=by
 unfold cE R.SL chk
 rw[bF,if_pos (by omega),aa,dV,dV]
 have:Lib.cut l [c] =(l,[],false):=by unfold Lib.cut;rw[Bc h,if_neg (by decide)]
 rw[this];rfl
theorem Pb {a r:List UInt8} {c:UInt8} (hl:(a++c::r).length<=1000000) (h:c∉a):cE (mkB (a++c::r)) (mkB [c])=some (mkB a,mkB r,true):=by
 unfold cE R.SL chk
 rw[bF,if_pos (by omega),aa,dV,dV]
 have:Lib.cut (a++c::r) [c] =(a,r,true):=by
  unfold Lib.cut
  rw[Bd h,if_pos (by omega)]
  have hd:(a++c::r).drop (a.length+1)=r:=by
   rw[<-List.drop_drop,List.drop_left];rfl
  show (List.take a.length _,List.drop (a.length+1) _,true)=_
  rw[List.take_left,hd]
 rw[this];rfl
theorem Gh {c:UInt8} : ∀ {l:List UInt8},c∉l->Lib.indexByte l c= -1
 | [],_=>rfl
 | b::l,h=>by
  have hb:b≠c:=fun e=>h (by simp[e])
  rw[Lib.indexByte,if_neg (by simpa using hb),Gh fun k=>h (be _ k)];rfl
theorem Pc {c:UInt8} : ∀ {a r:List UInt8},c∉a->Lib.indexByte (a++c::r) c=(a.length:Int)
 | [],r,_=>by simp[Lib.indexByte]
 | b::a,r,h=>by
  have hb:b≠c:=fun e=>h (by simp[e])
  rw[List.cons_append,Lib.indexByte,if_neg (by simpa using hb),Pc fun k=>h (be _ k),if_neg (by rw[beq_iff_eq];omega),ak];omega
end D
namespace D
open Go.RowKit
theorem Uv {α:Type} {l:List α} (h:l.length=3): ∃a b c,l= [a,b,c]:=by
 match l,h with
 | [a,b,c],_=>exact ⟨a,b,c,rfl⟩
abbrev EgT:Type:=Int×Int×Int×Int
theorem NO (c:UInt8) (cur l:List UInt8):1<=(mE c cur l).length:=by
 rcases qp c l with k | ⟨a,r,rfl,k⟩
 ·rw[lK k];simp
 ·rw[n7 k];simp
theorem Db (u:Nat): ∀b∈Lib.decDigits u,48<=b.toNat/\b.toNat<=57:=by
 induction u using Nat.strongRecOn with
 | _ u ih =>
  intro b hb
  have k: ∀d,d<10->48<=(UInt8.ofNat (48+d)).toNat/\(UInt8.ofNat (48+d)).toNat<=57:=fun d hd=>by
   have e:(UInt8.ofNat (48+d)).toNat=48+d:=by simp;omega
   omega
  by_cases h:u<10
  ·rw[Lib.decDigits_one h] at hb
   obtain rfl:=aw hb
   exact k u h
  ·rw[vJ h] at hb
   rcases aG hb with hb | hb
   ·exact ih (u / 10) (by omega) b hb
   ·obtain rfl:=aw hb
    exact k _ (Nat.mod_lt _ (by omega))
theorem NP (n:Int): ∀b∈Lib.itoa n,b.toNat=45\/48<=b.toNat/\b.toNat<=57:=by
 intro b hb
 unfold Lib.itoa at hb
 split at hb
 ·rcases aA hb with rfl | hb
  ·exact .inl rfl
  ·exact .inr (Db _ b hb)
 ·exact .inr (Db _ b hb)
theorem Pd {n:Int} {c:UInt8} (h1:c.toNat≠45) (h2:c.toNat<48\/57<c.toNat):c∉Lib.itoa n:=fun h=>by
 rcases NP n c h with k | k <;> omega
theorem Pe {n:Int} (h:0<=n/\n<=9):Lib.itoa n= [UInt8.ofNat (48+n.toNat)]:=by
 unfold Lib.itoa
 rw[if_neg (by omega),Lib.decDigits_one (by omega)]
theorem EF {e:EgT} (h:edOk e):pN e=Lib.itoa e.1++58:: [UInt8.ofNat (48+e.2.1.toNat),UInt8.ofNat (97+e.2.2.2.toNat),UInt8.ofNat (48+e.2.2.1.toNat)]:=by
 obtain ⟨-,h2,h3,-⟩:=h
 unfold pN
 rw[Pe (n:=e.2.1) (by omega),Pe (n:=e.2.2.1) (by omega)]
 simp
theorem SX: ∀k:Fin 9,∃x,dH (k.val:Int)=some x:=by
 intro k
 match k with
 | ⟨0,_⟩=>exact ⟨_,rfl⟩
 | ⟨1,_⟩=>exact ⟨_,rfl⟩
 | ⟨2,_⟩=>exact ⟨_,rfl⟩
 | ⟨3,_⟩=>exact ⟨_,rfl⟩
 | ⟨4,_⟩=>exact ⟨_,rfl⟩
 | ⟨5,_⟩=>exact ⟨_,rfl⟩
 | ⟨6,_⟩=>exact ⟨_,rfl⟩
 | ⟨7,_⟩=>exact ⟨_,rfl⟩
 | ⟨8,_⟩=>exact ⟨_,rfl⟩
theorem HJ (z:ByteArray): ∃r,eQ z=some r:=by
 obtain ⟨o,e,h⟩:=cO (f:=iS z) (fun i s=>s=(i:Int)) (fun o=> ∀s,o≠ .nxt s) 9 (fun i s hi hI=>by
  subst hI
  unfold iS
  by_cases h1:i<9
  ·obtain ⟨x,ex⟩:=SX ⟨i,h1⟩
   have ex:dH (i:Int)=some x:=ex
   rw[if_pos (decide_eq_true (by omega)),ex]
   simp only[aa]
   by_cases c:(x==z)=true
   ·rw[if_pos c];exact .inr ⟨_,rfl,fun s' h=>(by simp at h),fun s' h=>(by simp at h)⟩
   ·rw[if_neg c];exact .inl ⟨h1,_,rfl,aj (by omega)⟩
  ·obtain rfl:i=9:=by omega
   rw[if_neg (by decide)];exact .inr ⟨_,rfl,fun s' h=>(by simp at h),fun s' h=>(by simp at h)⟩) (s:=(0:Int)) rfl (gg _ (by omega))
 unfold eQ
 rw[e]
 cases o with
 | nxt s=>exact absurd rfl (h s)
 | brk s=>exact ⟨_,rfl⟩
 | ret r=>exact ⟨_,rfl⟩
theorem KO: ∀k:Fin 3,eQ (mkB [UInt8.ofNat (97+k.val)])=some (2*(k.val:Int),true):=by
 intro k
 have hf:=gg 100 (by omega)
 obtain ⟨n,hn⟩: ∃n,bg=n+6:=⟨bg - 6,by omega⟩
 unfold eQ
 rw[hn]
 match k with
 | ⟨0,_⟩=>rfl
 | ⟨1,_⟩=>rfl
 | ⟨2,_⟩=>rfl
theorem Vf: ∀d:Fin 5,IntKind.i64.wrap ((IntKind.i64.wrap (((UInt8.ofNat (48+d.val)).toNat:Nat):Int)) - 48)=(d.val:Int):=by decide
theorem Vu: ∀d:Fin 3,IntKind.i64.wrap ((IntKind.i64.wrap (((UInt8.ofNat (97+d.val)).toNat:Nat):Int)) - 97)=(d.val:Int):=by decide
theorem Vv: ∀d:Fin 3,LC (2*(d.val:Int)) 2=(d.val:Int):=by decide
def TV (s:List UInt8) (r:EgT×Bool):Prop:=r=((0,0,0,0),false)\/r.2=true/\edOk r.1/\s=pN r.1
theorem Pf {e:EgT} {s:List UInt8} (h:s≠ []): ∃r:EgT×Bool,(if (if edOk e then mkB (pN e) else mkB []) !=mkB s then (some ((0,0,0,0),false)) else (some (e,true)):Option (EgT×Bool))=some r/\TV s r:=by
 by_cases k:edOk e
 ·rw[if_pos k]
  by_cases c:mkB (pN e)=mkB s
  ·rw[if_neg (by simp[c])];exact ⟨_,rfl,.inr ⟨rfl,k,(tX c).symm⟩⟩
  ·rw[if_pos (by simpa using c)];exact ⟨_,rfl,.inl rfl⟩
 ·rw[if_neg k,if_pos (by
   rw[bne_iff_ne]
   exact fun c=>h (tX c).symm)]
  exact ⟨_,rfl,.inl rfl⟩
theorem Vx (l:List UInt8) (hl:l.length<=1000000): ∃r,fe (mkB l)=some r/\TV l r:=by
 unfold fe
 have ec:fW (mkB l) 58=some ((mE 58 [] l).map mkB):=sL l 58 hl
 rw[ec];simp only[aa]
 rcases qp 58 l with k | ⟨a,r,rfl,k⟩
 ·rw[lK k];exact ⟨_,rfl,.inl rfl⟩
 ·rw[n7 k]
  rcases qp 58 r with k2 | ⟨b,q,rfl,k2⟩
  ·rw[lK k2]
   simp only[List.nil_append,List.map_cons,List.map_nil]
   have g0:aY [mkB a,mkB r] 0=some (mkB a):=rfl
   have g1:aY [mkB a,mkB r] 1=some (mkB r):=rfl
   rw[if_neg (by simp)]
   simp only[g0,g1,aa,bF]
   by_cases h3:r.length=3
   ·obtain ⟨x,y,z,rfl⟩:=Uv h3
    obtain ⟨n,en,-,-⟩:=nZ (mkB a)
    obtain ⟨t,et⟩:=HJ (mkB [y])
    have s1:mr (mkB [x,y,z]) 1 2=some (mkB [y]):=slB (l:=[x,y,z]) (a:=1) (b:=2) (by decide) (by simp)
    have a0:hY (mkB [x,y,z]) 0=some ((x.toNat:Nat):Int):=atB (l:=[x,y,z]) (i:=0) (by simp)
    have a2:hY (mkB [x,y,z]) 2=some ((z.toNat:Nat):Int):=atB (l:=[x,y,z]) (i:=2) (by simp)
    rw[if_neg (by simp),en,s1]
    simp only[aa]
    rw[et,a0,a2]
    simp only[aa]
    rw[KK]
    simp only[aa]
    exact Pf (by simp)
   ·rw[if_pos (by rw[bne_iff_ne];omega)];exact ⟨_,rfl,.inl rfl⟩
  ·rw[n7 k2]
   have:=NO 58 [] q
   rw[if_pos (by rw[bne_iff_ne];simp only[List.length_map,ak];omega)]
   exact ⟨_,rfl,.inl rfl⟩
theorem Vy (l:List UInt8) (hl:l.length<=1000000): ∃r,fm (mkB l)=some r/\TV l r:=by
 unfold fm
 rcases qp 58 l with k | ⟨a,r,rfl,k⟩
 ·have ec:cE (mkB l) (⟨#[58]⟩)=some (mkB l,mkB [],false):=NN hl k
  rw[ec];exact ⟨_,rfl,.inl rfl⟩
 ·have ec:cE (mkB (a++58::r)) (⟨#[58]⟩)=some (mkB a,mkB r,true):=Pb hl k
  rw[ec]
  simp only[aa,bF]
  by_cases h3:r.length=3
  ·obtain ⟨x,y,z,rfl⟩:=Uv h3
   obtain ⟨n,-,en,-⟩:=nZ (mkB a)
   have a0:hY (mkB [x,y,z]) 0=some ((x.toNat:Nat):Int):=atB (l:=[x,y,z]) (i:=0) (by simp)
   have a1:hY (mkB [x,y,z]) 1=some ((y.toNat:Nat):Int):=atB (l:=[x,y,z]) (i:=1) (by simp)
   have a2:hY (mkB [x,y,z]) 2=some ((z.toNat:Nat):Int):=atB (l:=[x,y,z]) (i:=2) (by simp)
   rw[if_neg (by simp),en,a0,a1,a2]
   simp only[aa]
   rw[KL]
   simp only[aa]
   exact Pf (by simp)
  ·rw[if_pos (by rw[bne_iff_ne];omega)];exact ⟨_,rfl,.inl rfl⟩
theorem Rn {e:EgT} (h:edOk e):fe (mkB (pN e))=some (e,true)/\fm (mkB (pN e))=some (e,true):=by
 have hn:=qn h
 have he:=EF h
 have hl:(pN e).length<=1000000:=by omega
 obtain ⟨h1,h2,h3,h4⟩:=id h
 obtain ⟨p1,p2⟩:=A7 (n:=e.1) (by omega)
 have k:(58:UInt8)∉Lib.itoa e.1:=Pd (by decide) (by decide)
 obtain ⟨f,hf,ef⟩: ∃k:Nat,k<5/\e.2.1=(k:Int):=⟨e.2.1.toNat,by omega,by omega⟩
 obtain ⟨t,ht,et⟩: ∃k:Nat,k<5/\e.2.2.1=(k:Int):=⟨e.2.2.1.toNat,by omega,by omega⟩
 obtain ⟨q,hq,eq⟩: ∃k:Nat,k<3/\e.2.2.2=(k:Int):=⟨e.2.2.2.toNat,by omega,by omega⟩
 have hx:pN e=Lib.itoa e.1++58:: [UInt8.ofNat (48+f),UInt8.ofNat (97+q),UInt8.ofNat (48+t)]:=by
  rw[he,ef,et,eq];rfl
 have k2:(58:UInt8) ∉ [UInt8.ofNat (48+f),UInt8.ofNat (97+q),UInt8.ofNat (48+t)]:=by
  have e1:(UInt8.ofNat (48+f)).toNat=48+f:=by simp;omega
  have e2:(UInt8.ofNat (97+q)).toNat=97+q:=by simp;omega
  have e3:(UInt8.ofNat (48+t)).toNat=48+t:=by simp;omega
  have e4:(58:UInt8).toNat=58:=rfl
  intro hm
  simp only[List.mem_cons,List.not_mem_nil,or_false] at hm
  rcases hm with hm | hm | hm <;> (have:=congrArg UInt8.toNat hm;omega)
 have a0:hY (mkB [UInt8.ofNat (48+f),UInt8.ofNat (97+q),UInt8.ofNat (48+t)]) 0=some (((UInt8.ofNat (48+f)).toNat:Nat):Int):=atB (l:=[UInt8.ofNat (48+f),UInt8.ofNat (97+q),UInt8.ofNat (48+t)]) (i:=0) (by simp)
 have a1:hY (mkB [UInt8.ofNat (48+f),UInt8.ofNat (97+q),UInt8.ofNat (48+t)]) 1=some (((UInt8.ofNat (97+q)).toNat:Nat):Int):=atB (l:=[UInt8.ofNat (48+f),UInt8.ofNat (97+q),UInt8.ofNat (48+t)]) (i:=1) (by simp)
 have a2:hY (mkB [UInt8.ofNat (48+f),UInt8.ofNat (97+q),UInt8.ofNat (48+t)]) 2=some (((UInt8.ofNat (48+t)).toNat:Nat):Int):=atB (l:=[UInt8.ofNat (48+f),UInt8.ofNat (97+q),UInt8.ofNat (48+t)]) (i:=2) (by simp)
 have s1:mr (mkB [UInt8.ofNat (48+f),UInt8.ofNat (97+q),UInt8.ofNat (48+t)]) 1 2=some (mkB [UInt8.ofNat (97+q)]):=slB (l:=[UInt8.ofNat (48+f),UInt8.ofNat (97+q),UInt8.ofNat (48+t)]) (a:=1) (b:=2) (by decide) (by simp)
 have v1:=Vf ⟨f,hf⟩
 have v2:=Vf ⟨t,ht⟩
 have v3:=Vu ⟨q,hq⟩
 have v4:=Vv ⟨q,hq⟩
 have v5:=KO ⟨q,hq⟩
 simp only at v1 v2 v3 v4 v5
 have ee:(e.1,(f:Int),(t:Int),(q:Int))=e:=by rw[<-ef,<-et,<-eq]
 constructor
 ·unfold fe
  have ec:fW (mkB (pN e)) 58=some ((mE 58 [] (pN e)).map mkB):=sL _ 58 hl
  rw[ec];simp only[aa]
  rw[hx,n7 k,lK k2]
  simp only[List.nil_append,List.map_cons,List.map_nil]
  rw[if_neg (by simp)]
  have g0: ∀a b:ByteArray,aY [a,b] 0=some a:=fun a b=>rfl
  have g1: ∀a b:ByteArray,aY [a,b] 1=some b:=fun a b=>rfl
  simp only[g0,g1,aa,bF]
  rw[if_neg (by simp),p1,s1]
  simp only[aa]
  rw[v5,a0,a2]
  simp only[aa]
  rw[v1,v2,v4,ee,KK,if_pos h,<-hx]
  simp
 ·unfold fm
  have ec:cE (mkB (pN e)) (⟨#[58]⟩)=some (mkB (Lib.itoa e.1),mkB [UInt8.ofNat (48+f),UInt8.ofNat (97+q),UInt8.ofNat (48+t)],true):=by
   rw[hx] at hl⊢
   exact Pb hl k
  rw[ec]
  simp only[aa,bF]
  rw[if_neg (by simp),p2,a0,a1,a2]
  simp only[aa]
  rw[v1,v2,v3,ee,KL,if_pos h]
  simp
theorem KP (l:List UInt8) (hl:l.length<=1000000): ∃r,fe (mkB l)=some r/\fm (mkB l)=some r/\TV l r:=by
 by_cases h: ∃e:EgT,edOk e/\l=pN e
 ·obtain ⟨e,he,rfl⟩:=h
  exact ⟨_,(Rn he).1,(Rn he).2,.inr ⟨rfl,he,rfl⟩⟩
 ·obtain ⟨r1,e1,k1⟩:=Vx l hl
  obtain ⟨r2,e2,k2⟩:=Vy l hl
  rcases k1 with rfl | ⟨-,a,b⟩
  ·rcases k2 with rfl | ⟨-,a,b⟩
   ·exact ⟨_,e1,e2,.inl rfl⟩
   ·exact absurd ⟨_,a,b⟩ h
  ·exact absurd ⟨_,a,b⟩ h
end D
namespace D
open Go.RowKit
theorem NQ {e:EgT} (h:edOk e) {c:UInt8} (h1:c.toNat≠45) (h2:c.toNat<48):c∉pN e:=by
 obtain ⟨-,-,-,h4⟩:=id h
 rw[EF h]
 intro hm
 rcases aG hm with hm | hm
 ·exact Pd h1 (.inl h2) hm
 ·have e1:(UInt8.ofNat (48+e.2.1.toNat)).toNat=48+e.2.1.toNat:=by have:=h.2.1;simp;omega
  have e2:(UInt8.ofNat (97+e.2.2.2.toNat)).toNat=97+e.2.2.2.toNat:=by simp;omega
  have e3:(UInt8.ofNat (48+e.2.2.1.toNat)).toNat=48+e.2.2.1.toNat:=by have:=h.2.2.1;simp;omega
  have e4:(58:UInt8).toNat=58:=rfl
  simp only[List.mem_cons,List.not_mem_nil,or_false] at hm
  rcases hm with hm | hm | hm | hm <;> (have:=congrArg UInt8.toNat hm;omega)
theorem Gi {c:ChT} (h:edOk c.2) {b:UInt8} (h1:b.toNat≠45) (h2:b.toNat<48) (h3:b.toNat≠43):b∉mD c:=by
 unfold mD
 intro hm
 rcases aA hm with hm | hm
 ·have:=congrArg UInt8.toNat hm
  split at this
  ·exact h3 this
  ·exact h1 this
 ·exact NQ h h1 h2 hm
theorem uU {c:UInt8} : ∀ {r:List (List UInt8)} {x:List UInt8},c∉x->(∀y∈r,c∉y)->mE c [] (x++Lib.joinTail [c] r)=x::r
 | [],x,hx,_=>by
  have:Lib.joinTail [c] [] = []:=by simp[Lib.joinTail]
  rw[this,List.append_nil,lK hx];rfl
 | y::r,x,hx,hr=>by
  have:Lib.joinTail [c] (y::r)=c::(y++Lib.joinTail [c] r):=by simp[Lib.joinTail]
  rw[this,n7 hx,uU (hr y (by simp)) fun z hz=>hr z (be _ hz)];rfl
theorem KQ {l:List ChT} (h:vL l) (h0:l≠ []):mE 32 [] (btx l)=l.map mD:=by
 cases l with
 | nil=>exact absurd rfl h0
 | cons c r =>
  unfold btx
  rw[List.map_cons,Lib.join_cons]
  refine uU (Gi (h c (by simp)) (by decide) (by decide) (by decide)) fun y hy=>?_
  obtain ⟨d,hd,rfl⟩:=List.mem_map.1 hy
  exact Gi (h d (be _ hd)) (by decide) (by decide) (by decide)
theorem KR:btx [] = []:=by simp[btx,Lib.join_nil]
theorem Pg {l:List ChT} (h0:l≠ []):btx l≠ []:=by
 cases l with
 | nil=>exact absurd rfl h0
 | cons c r=>unfold btx;rw[List.map_cons,Lib.join_cons];simp[mD]
def TW (s:List UInt8) (r:(List ChT)×Bool):Prop:=r=([],false)\/r.2=true/\r.1.length<=6/\vL r.1/\s=btx r.1
theorem KS {p:List UInt8} (h:1<=p.length):mr (mkB p) 1 (p.length:Int)=some (mkB (p.drop 1)):=by
 have:=slB (l:=p) (a:=1) (b:=p.length) h (az _)
 rw[List.take_length] at this
 exact this
theorem pP (p:List UInt8):(mkB p==(⟨#[]⟩:ByteArray))=decide (p= []):=by
 by_cases h:p= []
 ·subst h;rfl
 ·rw[decide_eq_false h,beq_eq_false_iff_ne]
  intro k
  exact h (tX (b:=[]) k)
open Classical in
theorem Ph {f:List ChT->Option ByteArray} (hf: ∀l,f l=some (if l.length<=6/\vL l then mkB (btx l) else mkB [])) {b:List ChT} {s:List UInt8} (h:s≠ []): ∃r:(List ChT)×Bool,((f b).bind fun r16=>if r16 !=mkB s then (some (([] :List ChT),false)) else (some (b,true)):Option ((List ChT)×Bool))=some r/\TW s r:=by
 rw[hf]
 simp only[aa]
 by_cases k:b.length<=6/\vL b
 ·rw[if_pos k]
  by_cases c:mkB (btx b)=mkB s
  ·rw[if_neg (by simp[c])];exact ⟨_,rfl,.inr ⟨rfl,k.1,k.2,(tX c).symm⟩⟩
  ·rw[if_pos (by simpa using c)];exact ⟨_,rfl,.inl rfl⟩
 ·rw[if_neg k,if_pos (by
   rw[bne_iff_ne]
   exact fun c=>h (tX c).symm)]
  exact ⟨_,rfl,.inl rfl⟩
theorem Vz (l:List UInt8) (hl:l.length<=1000000): ∃r,dj (mkB l)=some r/\(l= [] \/TW l r):=by
 unfold dj
 by_cases h0:l= []
 ·rw[pP,if_pos (decide_eq_true h0)];exact ⟨_,rfl,.inl h0⟩
 rw[pP,if_neg (by simpa using h0)]
 have ec:fW (mkB l) 32=some ((mE 32 [] l).map mkB):=sL l 32 hl
 rw[ec];simp only[aa]
 obtain ⟨o,e,hQ⟩:=cO (f:=cj ((mE 32 [] l).map mkB)) (fun i s=> ∃b:List ChT,s=((i:Int),b)/\b.length=i) (fun o=>o= .ret (([] :List ChT),false)\/ ∃s,o= .brk s) 7 (fun i s hi hI=>by
  obtain ⟨b,rfl,hb⟩:=hI
  unfold cj
  simp only[]
  by_cases h1:i<((mE 32 [] l).map mkB).length
  ·rw[bO h1,if_pos rfl]
   by_cases h7:i<=6
   ·rw[if_pos (decide_eq_true (by omega)),aF h1]
    simp only[aa]
    rw[List.length_map] at h1
    have hp:=pO 32 l [] _ (List.getElem_mem h1)
    rw[List.getElem_map]
    generalize (mE 32 [] l)[i] =p at hp⊢
    rw[aH] at hp
    rw[bF]
    by_cases h2:p.length<2
    ·rw[if_pos (decide_eq_true (by omega))]
     exact .inr ⟨_,rfl,fun s' h=>(by simp at h),.inl rfl⟩
    ·rw[if_neg (by simp;omega),KS (by omega)]
     simp only[aa]
     obtain ⟨r,er,-,-⟩:=KP (p.drop 1) (by rw[aS];omega)
     rw[er]
     simp only[aa]
     have a0:hY (mkB p) 0=some ((p[0].toNat:Nat):Int):=atB (l:=p) (i:=0) (by omega)
     by_cases h3:r.2=true
     ·rw[if_pos h3,a0]
      simp only[aa]
      have hx: ∀z:ChT,di 40 b [z] =some (b++ [z]):=fun z=>aQ (by simp only[ak,aH];omega)
      rw[hx]
      simp only[aa]
      exact .inl ⟨by omega,_,rfl,_,by rw[aj (by omega)],by simp;omega⟩
     ·rw[if_neg h3]
      exact .inr ⟨_,rfl,fun s' h=>(by simp at h),.inl rfl⟩
   ·rw[if_neg (by simp;omega)]
    exact .inr ⟨_,rfl,fun s' h=>(by simp at h),.inr ⟨_,rfl⟩⟩
  ·rw[if_neg (by simp only[decide_eq_true_eq];omega)]
   exact .inr ⟨_,rfl,fun s' h=>(by simp at h),.inr ⟨_,rfl⟩⟩) (s:=(0,([] :List ChT))) ⟨[],rfl,rfl⟩ (gg _ (by omega))
 rcases hQ with rfl | ⟨s,rfl⟩
 ·rw[cv e];exact ⟨_,rfl,.inr (.inl rfl)⟩
 ·rw[aD e]
  obtain ⟨r,er,k⟩:=Ph (f:=cB) (fun l=>(qo l).1) (b:=s.2) h0
  exact ⟨r,er,.inr k⟩
theorem VB (l:List UInt8) (hl:l.length<=1000000): ∃r,dk (mkB l)=some r/\(l= [] \/TW l r):=by
 unfold dk
 by_cases h0:l= []
 ·rw[pP,if_pos (decide_eq_true h0)];exact ⟨_,rfl,.inl h0⟩
 rw[pP,if_neg (by simpa using h0)]
 have ec:cr (mkB l) (⟨#[32]⟩)=some ((mE 32 [] l).map mkB):=Be l 32 hl
 rw[ec];simp only[aa]
 have hn:=Ba 32 l []
 obtain ⟨o,e,hQ⟩:=cO (f:=ct ((mE 32 [] l).map mkB)) (fun i s=> ∃b:List ChT,s=((i:Int),b)/\b.length=i) (fun o=>o= .ret (([] :List ChT),false)\/ ∃s,o= .brk s) (mE 32 [] l).length (fun i s hi hI=>by
  obtain ⟨b,rfl,hb⟩:=hI
  unfold ct
  simp only[]
  by_cases h1:i<((mE 32 [] l).map mkB).length
  ·rw[bO h1,if_pos rfl,aF h1]
   simp only[aa]
   rw[List.length_map] at h1
   have hp:=pO 32 l [] _ (List.getElem_mem h1)
   rw[List.getElem_map]
   generalize (mE 32 [] l)[i] =p at hp⊢
   rw[aH] at hp
   rw[pP,bF]
   by_cases h2:p= []
   ·rw[if_pos (decide_eq_true h2)]
    exact .inr ⟨_,rfl,fun s' h=>(by simp at h),.inl rfl⟩
   ·have h2':1<=p.length:=List.length_pos_iff.2 h2
    rw[if_neg (by simpa using h2),KS h2']
    simp only[aa]
    obtain ⟨r,-,er,-⟩:=KP (p.drop 1) (by rw[aS];omega)
    rw[er]
    simp only[aa]
    have a0:hY (mkB p) 0=some ((p[0].toNat:Nat):Int):=atB (l:=p) (i:=0) (by omega)
    by_cases h3:r.2=true
    ·rw[if_pos h3,a0]
     simp only[aa]
     have hx: ∀z:ChT,di 40 b [z] =some (b++ [z]):=fun z=>aQ (by simp only[ak,aH];omega)
     rw[hx]
     simp only[aa]
     exact .inl ⟨by omega,_,rfl,_,by rw[aj (by omega)],by simp;omega⟩
    ·rw[if_neg h3]
     exact .inr ⟨_,rfl,fun s' h=>(by simp at h),.inl rfl⟩
  ·rw[if_neg (by simp only[decide_eq_true_eq];omega)]
   exact .inr ⟨_,rfl,fun s' h=>(by simp at h),.inr ⟨_,rfl⟩⟩) (s:=(0,([] :List ChT))) ⟨[],rfl,rfl⟩ (gg _ (by omega))
 rcases hQ with rfl | ⟨s,rfl⟩
 ·rw[cv e];exact ⟨_,rfl,.inr (.inl rfl)⟩
 ·rw[aD e]
  obtain ⟨r,er,k⟩:=Ph (f:=dx) (fun l=>(qo l).2) (b:=s.2) h0
  exact ⟨r,er,.inr k⟩
theorem KT {L:List ChT} (h:vL L) (h6:L.length<=6) {i:Nat} (hi:i<L.length):cj ((L.map mD).map mkB) ((i:Int),L.take i)=some (.nxt (((i+1:Nat):Int),L.take (i+1)))/\ct ((L.map mD).map mkB) ((i:Int),L.take i)=some (.nxt (((i+1:Nat):Int),L.take (i+1))):=by
 have hl:i<((L.map mD).map mkB).length:=by rw[List.length_map,List.length_map];exact hi
 have hk:edOk L[i].2:=h _ (List.getElem_mem hi)
 have hp:=qn hk
 have eg:((L.map mD).map mkB)[i] =mkB (mD L[i]):=by simp
 obtain ⟨p1,p2⟩:=Rn hk
 have hs:(mD L[i]).length=(pN L[i].2).length+1:=by unfold mD;rw[ak]
 have h4:4<=(pN L[i].2).length:=by rw[EF hk];simp
 have ed:(mD L[i]).drop 1=pN L[i].2:=rfl
 have a0:hY (mkB (mD L[i])) 0=some (((if L[i].1 then (43:UInt8) else 45).toNat:Nat):Int):=atB (l:=mD L[i]) (i:=0) (by omega)
 have hz:((((if L[i].1 then (43:UInt8) else 45).toNat:Nat):Int)==43)=L[i].1:=by
  generalize L[i].1=t
  cases t <;> rfl
 have hx: ∀z:ChT,di 40 (L.take i) [z] =some (L.take i++ [z]):=fun z=>aQ (by rw[aC];simp only[ak,aH];omega)
 have et:=List.take_succ_eq_append_getElem hi
 have st:=KS (p:=mD L[i]) (by omega)
 constructor
 ·unfold cj
  simp only[]
  rw[bO hl,if_pos rfl,if_pos (decide_eq_true (by omega)),aF hl,eg]
  simp only[aa]
  rw[bF,if_neg (by simp;omega),st,ed]
  simp only[aa]
  rw[p1]
  simp only[aa]
  rw[if_pos trivial,a0]
  simp only[aa]
  rw[hz,hx,aj (by omega),et];rfl
 ·unfold ct
  simp only[]
  rw[bO hl,if_pos rfl,aF hl,eg]
  simp only[aa]
  rw[pP,if_neg (by simp[mD]),bF,st,ed]
  simp only[aa]
  rw[p2]
  simp only[aa]
  rw[if_pos trivial,a0]
  simp only[aa]
  rw[hz,hx,aj (by omega),et];rfl
theorem SY {L:List ChT} (h:vL L) (h6:L.length<=6):dj (mkB (btx L))=some (L,true)/\dk (mkB (btx L))=some (L,true):=by
 by_cases h0:L= []
 ·subst h0
  unfold dj dk
  rw[KR]
  exact ⟨rfl,rfl⟩
 have hn:=A9 h
 have hl:(btx L).length<=1000000:=by omega
 have eb: ∀s i:Option ByteArray,True:=fun _ _=>trivial
 obtain ⟨b1,b2⟩:=qo L
 rw[if_pos ⟨h6,h⟩] at b1 b2
 have hs:=bK (f:=cj ((L.map mD).map mkB)) (fun i=>((i:Int),L.take i)) L.length (fun i hi=>(KT h h6 hi).1) (by
  unfold cj
  simp only[]
  rw[if_neg (by simp)]) (gg _ (by omega))
 have hi:=bK (f:=ct ((L.map mD).map mkB)) (fun i=>((i:Int),L.take i)) L.length (fun i hi=>(KT h h6 hi).2) (by
  unfold ct
  simp only[]
  rw[if_neg (by simp)]) (gg _ (by omega))
 rw[List.take_length] at hs hi
 constructor
 ·unfold dj
  have ec:fW (mkB (btx L)) 32=some ((mE 32 [] (btx L)).map mkB):=sL _ 32 hl
  rw[pP,if_neg (by simpa using Pg h0),ec,KQ h h0]
  simp only[aa]
  have hs:aB (cj ((L.map mD).map mkB)) bg (0,([] :List ChT))=_:=hs
  rw[aD hs]
  simp only[]
  rw[b1]
  simp
 ·unfold dk
  have ec:cr (mkB (btx L)) (⟨#[32]⟩)=some ((mE 32 [] (btx L)).map mkB):=Be _ 32 hl
  rw[pP,if_neg (by simpa using Pg h0),ec,KQ h h0]
  simp only[aa]
  have hi:aB (ct ((L.map mD).map mkB)) bg (0,([] :List ChT))=_:=hi
  rw[aD hi]
  simp only[]
  rw[b2]
  simp
theorem Ro (l:List UInt8) (hl:l.length<=1000000): ∃r,dj (mkB l)=some r/\dk (mkB l)=some r/\TW l r:=by
 by_cases h: ∃L:List ChT,L.length<=6/\vL L/\l=btx L
 ·obtain ⟨L,h6,hk,rfl⟩:=h
  exact ⟨_,(SY hk h6).1,(SY hk h6).2,.inr ⟨rfl,h6,hk,rfl⟩⟩
 ·have hne:l≠ []:=fun e=>h ⟨[],by simp,fun c hc=>by simp at hc,by rw[e,KR]⟩
  obtain ⟨r1,e1,k1⟩:=Vz l hl
  obtain ⟨r2,e2,k2⟩:=VB l hl
  rcases k1 with k | rfl | ⟨-,a,b,c⟩
  ·exact absurd k hne
  ·rcases k2 with k | rfl | ⟨-,a,b,c⟩
   ·exact absurd k hne
   ·exact ⟨_,e1,e2,.inl rfl⟩
   ·exact absurd ⟨_,a,b,c⟩ h
  ·exact absurd ⟨_,a,b,c⟩ h
end D
namespace D
open Go.RowKit
def recT (v:Int) (b:List ChT):List UInt8:=((dI v b).getD ByteArray.empty).data.toList
theorem SZ (v:Int) (b:List ChT):dI v b=some (mkB (recT v b))/\fA v b=some (mkB (recT v b))/\(recT v b).length<=1000:=by
 obtain ⟨r,e1,e2,h⟩:=xO v b
 have e:mkB (recT v b)=r:=by unfold recT;rw[e1];exact Bb r
 rw[<-e,bF] at h
 rw[e]
 exact ⟨e1,e2,h⟩
def totL (r:List Int) (q:List (List ChT)):Nat->Nat
 | 0=>0
 | i+1=>totL r q i+(recT (nth r (i:Int)) (nth q (i:Int))).length
theorem Gj {r:List Int} {q:List (List ChT)} (h:q.length=r.length) (x:List Int) (y:List (List ChT)): ∀i,i<=r.length->totL (r++x) (q++y) i=totL r q i
 | 0,_=>rfl
 | i+1,hi=>by
  rw[totL,totL,Gj h x y i (by omega),gh (by omega) (by omega),gh (by omega) (by omega)]
theorem KU {r:List Int} {q:List (List ChT)} (h:q.length=r.length) (v:Int) (b:List ChT):totL (r++ [v]) (q++ [b]) (r++ [v]).length=totL r q r.length+(recT v b).length:=by
 have e1:nth (r++ [v]) ((r.length:Nat):Int)=v:=by rw[b8 (by simp)];simp
 have e2:nth (q++ [b]) ((r.length:Nat):Int)=b:=by rw[<-h,b8 (by simp)];simp
 rw[aq,ak,aH,Nat.zero_add,totL,Gj h _ _ _ (az _),e1,e2]
theorem KV (l:List UInt8) (hl:l.length<=1000000): ∃r:Int×List ChT×Bool,gP (mkB l)=some r/\gU (mkB l)=some r/\r.2.1.length<=6/\(-999999999<=r.1/\r.1<=999999999)/\(r.2.2=true->recT r.1 r.2.1=l):=by
 unfold gP gU
 have ec:fW (mkB l) 59=some ((mE 59 [] l).map mkB):=sL l 59 hl
 have ei:cr (mkB l) (⟨#[59]⟩)=some ((mE 59 [] l).map mkB):=Be l 59 hl
 rw[ec,ei];simp only[aa]
 by_cases h3:(mE 59 [] l).length=3
 ·have hp:=pO 59 l []
  obtain ⟨a,b,c,e⟩:=Uv h3
  rw[e] at hp⊢
  have hb:=hp b (by simp)
  rw[aH] at hb
  simp only[List.map_cons,List.map_nil]
  have g0:aY [mkB a,mkB b,mkB c] 0=some (mkB a):=rfl
  have g1:aY [mkB a,mkB b,mkB c] 1=some (mkB b):=rfl
  rw[if_neg (by simp),if_neg (by simp)]
  obtain ⟨v,v1,v2,kv⟩:=nZ (mkB a)
  obtain ⟨q,q1,q2,k⟩:=Ro b (by omega)
  obtain ⟨t,t1,t2,-⟩:=xO v.1 q.1
  have hq:q.1.length<=6:=by
   rcases k with rfl | ⟨-,k,-⟩
   ·simp
   ·exact k
  have hv: -999999999<=v.1/\v.1<=999999999:=by
   rcases kv with ⟨-,k,-⟩ | rfl
   ·exact k
   ·decide
  simp only[g0,g1,v1,v2,q1,q2,t1,t2,aa]
  by_cases c1:v.2=true
  ·by_cases c2:q.2=true
   ·by_cases c3:(t !=mkB l)=true
    ·simp only[if_pos c1,if_pos c2,if_pos c3];exact ⟨_,rfl,rfl,by simp,by decide,fun c=>by cases c⟩
    ·simp only[if_pos c1,if_pos c2,if_neg c3];exact ⟨_,rfl,rfl,hq,hv,fun _=>by
      have e:t=mkB l:=by simpa using c3
      have e2:=(SZ v.1 q.1).1
      rw[t1,e] at e2
      exact (tX (ae e2)).symm⟩
   ·simp only[if_pos c1,if_neg c2];exact ⟨_,rfl,rfl,by simp,by decide,fun c=>by cases c⟩
  ·simp only[if_neg c1];exact ⟨_,rfl,rfl,by simp,by decide,fun c=>by cases c⟩
 ·have k:(((List.map mkB (mE 59 [] l)).length:Int) !=3)=true:=by
   rw[bne_iff_ne,List.length_map];omega
  rw[if_pos k,if_pos k]
  exact ⟨_,rfl,rfl,by simp,by decide,fun c=>by cases c⟩
def ScOk (vs:List Int) (bs:List (List ChT)):Prop:=bs.length=vs.length/\(∀b∈bs,b.length<=6)/\ ∀v∈vs,(-999999999<=v/\v<=999999999)/\v<=nth vs ((vs.length:Int) - 1)
theorem NR (vs:List Int) (v:Int):nth (vs++ [v]) (((vs++ [v]).length:Int) - 1)=v:=by
 have e:(((vs++ [v]).length:Int) - 1)=((vs.length:Nat):Int):=by simp
 rw[e,b8 (by simp)];simp
theorem ScOk.push {vs:List Int} {bs:List (List ChT)} (h:ScOk vs bs) {v:Int} {b:List ChT} (hb:b.length<=6) (hv: -999999999<=v/\v<=999999999) (hx:0<vs.length->v=IntKind.i64.wrap (nth vs ((vs.length:Int) - 1)+1)):ScOk (vs++ [v]) (bs++ [b]):=by
 obtain ⟨h1,h2,h3⟩:=h
 refine ⟨by simp;omega,fun d hd=>?_,fun d hd=>?_⟩
 ·rcases aG hd with q | q
  ·exact h2 d q
  ·obtain rfl:=aw q;exact hb
 ·rw[NR]
  rcases aG hd with q | q
  ·have h0:0<vs.length:=List.length_pos_of_mem q
   obtain ⟨k1,k2⟩:=h3 d q
   obtain ⟨k3,-⟩:=h3 _ (jj (xs:=vs) (i:=(vs.length:Int) - 1) (by omega) (by omega))
   have:=hx h0
   rw[dY (by omega) (by omega)] at this
   exact ⟨k1,by omega⟩
  ·obtain rfl:=aw q;exact ⟨hv,Int.le_refl _⟩
theorem Bf {l:List UInt8} (hl:l.length<=4000) {vs:List Int} {bs:List (List ChT)} {u:Int} : ∀(a r:List UInt8) (i k:Nat),(10:UInt8)∉a->l.drop i=a++r->i<=l.length->aB (bm (mkB l)) (k+a.length) (vs,bs,u,(i:Int))=aB (bm (mkB l)) k (vs,bs,u,((i+a.length:Nat):Int))
 | [],r,i,k,_,_,_=>rfl
 | x::a,r,i,k,hx,e,hi=>by
  have h1:i<l.length:=by
   have:=congrArg List.length e
   rw[aS,aq,ak] at this;omega
  have e0:=List.drop_eq_getElem_cons h1
  rw[e0,List.cons_append] at e
  obtain ⟨e1,e2⟩:=List.cons.inj e
  have hn:x.toNat≠10:=fun q=>hx (by
   have:x=10:=UInt8.toNat_inj.1 q
   rw[this];simp)
  have st:bm (mkB l) (vs,bs,u,(i:Int))=some (.nxt (vs,bs,u,((i+1:Nat):Int))):=by
   unfold bm
   simp only[]
   rw[bF,bO h1,if_pos rfl,if_pos (decide_eq_true (by omega)),atB h1,e1]
   simp only[aa]
   rw[if_pos (by rw[bne_iff_ne];omega),aj (by omega)];rfl
  rw[ak,show k+(a.length+1)=(k+a.length)+1 by omega,aB,st]
  show aB _ (k+a.length) _=_
  rw[Bf hl a r (i+1) k (fun q=>hx (be _ q)) e2 h1,show i+1+a.length=i+(a.length+1) by omega]
theorem Rp {l:List UInt8} (hl:l.length<=4000): ∀(m p:Nat) (vs:List Int) (bs:List (List ChT)),l.length - p<m->p<=l.length->vs.length<=p->ScOk vs bs->totL vs bs vs.length<=p-> ∃(r:List Int) (q:List (List ChT)) (n:Nat),(∀k,l.length - p+1<=k->(aB (bm (mkB l)) k (vs,bs,(p:Int),(p:Int))=some (.ret (r,q,(n:Int)))\/ ∃i,aB (bm (mkB l)) k (vs,bs,(p:Int),(p:Int))=some (.brk (r,q,(n:Int),i)))/\aB (b7 (mkB l)) k (vs,bs,(p:Int))=some (.brk (r,q,(n:Int))))/\n<=l.length/\r.length<=n/\ScOk r q/\totL r q r.length<=n:=by
 intro m
 induction m with
 | zero=>intro p vs bs hm;omega
 | succ m ih =>
  intro p vs bs hm hp hv hb ht
  have hbl:=hb.1
  have hsl:mr (mkB l) (p:Int) (l.length:Int)=some (mkB (l.drop p)):=by
   rw[slB hp (az _),List.take_length]
  rcases qp 10 (l.drop p) with k | ⟨a,t,e,k⟩
  ·refine ⟨vs,bs,p,fun j hj=>⟨.inr ⟨(l.length:Int),?_⟩,?_⟩,hp,hv,hb,ht⟩
   ·have hd:(l.drop p).length=l.length - p:=aS ..
    obtain ⟨j,rfl⟩: ∃j',j=(j'+1)+(l.drop p).length:=⟨j - 1 - (l.length - p),by omega⟩
    rw[Bf hl (l.drop p) [] p (j+1) k (by simp) hp,aB,hd,show p+(l.length - p)=l.length by omega]
    have:bm (mkB l) (vs,bs,(p:Int),(l.length:Int))=some (.brk (vs,bs,(p:Int),(l.length:Int))):=by
     unfold bm
     simp only[]
     rw[bF,if_neg (by simp)]
    rw[this]
   ·obtain ⟨j,rfl⟩: ∃j',j=j'+1:=⟨j - 1,by omega⟩
    have:b7 (mkB l) (vs,bs,(p:Int))=some (.brk (vs,bs,(p:Int))):=by
     unfold b7
     simp only[]
     have ei:dQ (mkB (l.drop p)) 10=some (-1):=by
      show some (Lib.indexByte _ 10)=_
      rw[dV,Gh k]
     rw[bF,if_pos (decide_eq_true (by omega)),hsl]
     simp only[aa]
     rw[ei]
     simp only[aa]
     rw[if_pos (by decide)]
    rw[aB,this]
  ·have hlen:(l.drop p).length=l.length - p:=aS ..
   rw[e,aq,ak] at hlen
   have hn:p+a.length<l.length:=by omega
   have hx:l[p+a.length] =10:=by
    have:(l.drop p)[a.length]? =some 10:=by rw[e];simp
    rw[List.getElem?_drop,List.getElem?_eq_getElem hn] at this
    exact ae this
   obtain ⟨r,r1,r2,h6,h9,h8⟩:=KV ((l.take (p+a.length+1)).drop p) (by rw[aS,aC];omega)
   have es:mr (mkB l) (p:Int) ((p+a.length+1:Nat):Int)=some (mkB ((l.take (p+a.length+1)).drop p)):=slB (by omega) (by omega)
   have ei:dQ (mkB (l.drop p)) 10=some (a.length:Int):=by
    show some (Lib.indexByte _ 10)=_
    rw[dV,e,Pc k]
   have w1:IntKind.i64.wrap ((IntKind.i64.wrap ((p:Int)+(a.length:Int)))+1)=((p+a.length+1:Nat):Int):=by
    rw[dY (n:=(p:Int)+(a.length:Int)) (by omega) (by omega),dY (by omega) (by omega)];omega
   have w2:IntKind.i64.wrap ((p:Int)+(IntKind.i64.wrap ((a.length:Int)+1)))=((p+a.length+1:Nat):Int):=by
    rw[dY (n:=(a.length:Int)+1) (by omega) (by omega),dY (by omega) (by omega)];omega
   have step:(bm (mkB l) (vs,bs,(p:Int),((p+a.length:Nat):Int))=some (.ret (vs,bs,(p:Int)))/\b7 (mkB l) (vs,bs,(p:Int))=some (.brk (vs,bs,(p:Int))))\/(bm (mkB l) (vs,bs,(p:Int),((p+a.length:Nat):Int))=some (.nxt (vs++ [r.1],bs++ [r.2.1],((p+a.length+1:Nat):Int),((p+a.length+1:Nat):Int)))/\b7 (mkB l) (vs,bs,(p:Int))=some (.nxt (vs++ [r.1],bs++ [r.2.1],((p+a.length+1:Nat):Int)))/\(0<vs.length->r.1=IntKind.i64.wrap (nth vs ((vs.length:Int) - 1)+1))/\r.2.2=true):=by
    have x1:di 8 vs [r.1] =some (vs++ [r.1]):=aQ (by simp only[ak,aH];omega)
    have x2:di 24 bs [r.2.1] =some (bs++ [r.2.1]):=aQ (by simp only[ak,aH];omega)
    unfold bm b7
    simp only[]
    rw[bF,bO hn,if_pos rfl,if_pos (decide_eq_true (by omega)),if_pos (decide_eq_true (by omega)),atB hn,hx,hsl]
    simp only[aa]
    rw[if_neg (by decide),ei,aj (show p+a.length<9223372036854775807 by omega),es]
    simp only[aa]
    rw[r1,if_neg (by simp),w1,w2,es]
    simp only[aa]
    rw[r2]
    simp only[aa]
    by_cases c1:r.2.2=true
    ·rw[if_pos c1,if_pos c1]
     by_cases c2:decide ((vs.length:Int)>0)=true
     ·rw[if_pos c2,if_pos c2]
      have h0:0<vs.length:=by simpa using c2
      rw[nl (by omega),aK (xs:=vs) (by omega) (by omega)]
      simp only[aa]
      by_cases c3:(r.1 !=IntKind.i64.wrap (nth vs ((vs.length:Int) - 1)+1))=true
      ·rw[if_pos c3,if_pos c3];exact .inl ⟨rfl,rfl⟩
      ·rw[if_neg c3,if_neg c3,x1,x2];exact .inr ⟨rfl,rfl,(fun _=>by simpa using c3),c1⟩
     ·rw[if_neg c2,if_neg c2,x1,x2];exact .inr ⟨rfl,rfl,(fun h=>absurd (decide_eq_true (show (vs.length:Int)>0 by omega)) c2),c1⟩
    ·rw[if_neg c1,if_neg c1];exact .inl ⟨rfl,rfl⟩
   rcases step with ⟨s1,s2⟩ | ⟨s1,s2,s3,s4⟩
   ·refine ⟨vs,bs,p,fun j hj=>⟨.inl ?_,?_⟩,hp,hv,hb,ht⟩
    ·obtain ⟨j,rfl⟩: ∃j',j=(j'+1)+a.length:=⟨j - 1 - a.length,by omega⟩
     rw[Bf hl a (10::t) p (j+1) k e hp,aB,s1]
    ·obtain ⟨j,rfl⟩: ∃j',j=j'+1:=⟨j - 1,by omega⟩
     rw[aB,s2]
   ·have hT:totL (vs++ [r.1]) (bs++ [r.2.1]) (vs++ [r.1]).length<=p+a.length+1:=by
     rw[KU hbl,h8 s4,aS,aC];omega
    obtain ⟨R,Q,n,h1,h2,h3,h4⟩:=ih (p+a.length+1) (vs++ [r.1]) (bs++ [r.2.1]) (by omega) (by omega) (by simp;omega) (hb.push h6 h9 s3) hT
    refine ⟨R,Q,n,fun j hj=>⟨?_,?_⟩,h2,h3,h4⟩
    ·obtain ⟨j,rfl⟩: ∃j',j=(j'+1)+a.length:=⟨j - 1 - a.length,by omega⟩
     rw[Bf hl a (10::t) p (j+1) k e hp,aB,s1]
     exact (h1 j (by omega)).1
    ·obtain ⟨j,rfl⟩: ∃j',j=j'+1:=⟨j - 1,by omega⟩
     rw[aB,s2]
     exact (h1 j (by omega)).2
theorem pQ (l:List UInt8) (hl:l.length<=1000000000): ∃(r:List Int) (q:List (List ChT)) (n:Nat),m_s_ScanLog (mkB l)=some (r,q,(n:Int))/\m_i_ScanLog (mkB l)=some (r,q,(n:Int))/\n<=l.length/\r.length<=4000/\ScOk r q/\totL r q r.length<=n:=by
 unfold m_s_ScanLog m_i_ScanLog
 by_cases h:l.length<=4000
 ·obtain ⟨r,q,n,h1,h2,h3,h4⟩:=Rp h (l.length+1) 0 [] [] (by omega) (by omega) (by simp) ⟨rfl,fun b hb=>(by cases hb),fun b hb=>(by cases hb)⟩ (Nat.zero_le _)
  obtain ⟨k1,k2⟩:=h1 bg (gg _ (by omega))
  have k2:aB (b7 (mkB l)) bg (([] :List Int),([] :List (List ChT)),0)=some (.brk (r,q,(n:Int))):=k2
  refine ⟨r,q,n,?_,?_,h2,by omega,h4⟩
  ·rcases k1 with k1 | ⟨i,k1⟩
   ·have k1:aB (bm (mkB l)) bg (([] :List Int),([] :List (List ChT)),0,0)=_:=k1
    rw[cv k1]
   ·have k1:aB (bm (mkB l)) bg (([] :List Int),([] :List (List ChT)),0,0)=_:=k1
    rw[aD k1]
  ·rw[aD k2]
 ·have hf:=gg 100 (by omega)
  obtain ⟨k,hk⟩: ∃k,bg=k+1:=⟨bg - 1,by omega⟩
  have k1:aB (bm (mkB l)) bg (([] :List Int),([] :List (List ChT)),0,0)=some (.brk ([],[],0,0)):=by
   rw[hk,aB]
   have:bm (mkB l) (([] :List Int),([] :List (List ChT)),0,0)=some (.brk ([],[],0,0)):=by
    unfold bm
    simp only[]
    rw[bF,if_pos (decide_eq_true (by omega)),if_neg (by simp;omega)]
   rw[this]
  have k2:aB (b7 (mkB l)) bg (([] :List Int),([] :List (List ChT)),0)=some (.brk ([],[],0)):=by
   rw[hk,aB]
   have:b7 (mkB l) (([] :List Int),([] :List (List ChT)),0)=some (.brk ([],[],0)):=by
    unfold b7
    simp only[]
    rw[bF,if_neg (by simp;omega)]
   rw[this]
  rw[aD k1,aD k2]
  exact ⟨[],[],0,rfl,rfl,by omega,by simp,⟨rfl,fun b hb=>(by cases hb),fun b hb=>(by cases hb)⟩,az _⟩
end D
namespace D
open Go.RowKit
abbrev GrT:=(List Int)×(List Yq1)
theorem S4 {R:Type} {f:Int->Option (Out R Int)} (N:Nat) (p:Nat->Prop) [DecidablePred p] (r:R) (hN:N<=9223372036854775807)
  (h: ∀i:Nat,i<N->f (i:Int)=some (if p i then .nxt ((i+1:Nat):Int) else .ret r)) (he:f (N:Int)=some (.brk (N:Int))) :
  (aB f bg 0=some (.brk (N:Int))/\ ∀i,i<N->p i)\/(aB f bg 0=some (.ret r)/\ ¬ ∀i,i<N->p i):=by
 obtain ⟨o,e,hq⟩:=cO (f:=f) (fun i s=>s=(i:Int)/\ ∀j:Nat,j<i->p j) (fun o=>(o= .brk (N:Int)/\ ∀i,i<N->p i)\/(o= .ret r/\ ¬ ∀i,i<N->p i)) N (s:=0) (by
  rintro i s hi ⟨rfl,hp⟩
  by_cases hl:i<N
  ·by_cases c:p i
   ·refine .inl ⟨hl,_,by rw[h i hl,if_pos c],rfl,fun j hj=>?_⟩
    by_cases e:j=i
    ·subst e;exact c
    ·exact hp j (by omega)
   ·exact .inr ⟨_,by rw[h i hl,if_neg c],(fun s' e=>by cases e),.inr ⟨rfl,fun hx=>c (hx i hl)⟩⟩
  ·obtain rfl:i=N:=by omega
   exact .inr ⟨_,he,(fun s' e=>by cases e),.inl ⟨rfl,hp⟩⟩) ⟨rfl,by omega⟩ (rH hN)
 rcases hq with ⟨rfl,hq⟩ | ⟨rfl,hq⟩
 ·exact .inl ⟨e,hq⟩
 ·exact .inr ⟨e,hq⟩
structure GOk (g:GrT):Prop where
 n1:1<=g.1.length
 n5:g.1.length<=5
 m:g.2.length<=12
 val: ∀v∈g.1,0<=v/\v<=2
 edge: ∀e∈g.2,(0<=e.2.1/\e.2.1<g.1.length)/\(0<=e.2.2.1/\e.2.2.1<g.1.length)/\0<=e.2.2.2/\e.2.2.2<=2
 asc: ∀i:Nat,i+1<g.2.length->(nth g.2 i).1<(nth g.2 ((i+1:Nat):Int)).1
def edgeP (e:Int×Int×Int×Int) (n:Int):Prop:=(1<=e.1/\e.1<=99)/\(0<=e.2.1/\e.2.1<=n - 1)/\(0<=e.2.2.1/\e.2.2.1<=n - 1)/\0<=e.2.2.2/\e.2.2.2<=2
instance (e n):Decidable (edgeP e n):=by unfold edgeP;infer_instance
theorem S5 (e:Int×Int×Int×Int) {n:Nat} (hn:n<=1048576):im e (n:Int)=some (decide (edgeP e n)):=by
 unfold im edgeP
 simp only[Dm,aa,nl (show n<=9223372036854775807 by omega)]
 by_cases c1:1<=e.1/\e.1<=99 <;> by_cases c2:0<=e.2.1/\e.2.1<=(n:Int) - 1 <;> by_cases c3:0<=e.2.2.1/\e.2.2.1<=(n:Int) - 1 <;> simp[c1,c2,c3]
theorem NS (g:GrT) (h1:g.1.length<=1048576) (h2:g.2.length<=1048576): ∃b,b9 g=some b/\(b=true->GOk g):=by
 unfold b9
 have k0:=S4 (f:=du g) g.1.length (fun i=>0<=nth g.1 i/\nth g.1 i<=2) false (by omega) (fun i hi=>by
  unfold du
  rw[if_pos (by simp;omega),aK (by omega) (by omega)];simp only[aa,Dm,decide_eq_true_eq]
  split
  ·rw[aj (by omega)]
  ·rfl) (by unfold du;rw[if_neg (by simp)])
 have k1:=S4 (f:=cL g) g.2.length (fun i=>edgeP (nth g.2 i) g.1.length/\(0<i->(nth g.2 ((i:Int) - 1)).1<(nth g.2 i).1)) false (by omega) (fun i hi=>by
  unfold cL
  rw[if_pos (by simp;omega),aK (by omega) (by omega)];simp only[aa]
  have e1:=S5 (nth g.2 (i:Int)) h1
  have e1:im ((nth g.2 (i:Int)).1,(nth g.2 (i:Int)).2.1,(nth g.2 (i:Int)).2.2.1,(nth g.2 (i:Int)).2.2.2) (g.1.length:Int)=_:=e1
  rw[e1];simp only[aa,decide_eq_true_eq]
  by_cases c1:edgeP (nth g.2 (i:Int)) g.1.length
  ·rw[if_pos c1]
   by_cases c2:0<i
   ·rw[if_pos (by omega),nl (by omega),aK (by omega) (by omega)];simp only[aa]
    by_cases c3:(nth g.2 ((i:Int) - 1)).1<(nth g.2 (i:Int)).1
    ·rw[if_neg (by omega),if_pos ⟨c1,fun _=>c3⟩,aj (by omega)]
    ·rw[if_pos (by omega),if_neg (fun h=>c3 (h.2 c2))]
   ·rw[if_neg (by omega),if_pos ⟨c1,fun h=>absurd h c2⟩,aj (by omega)]
  ·rw[if_neg c1,if_neg (fun h=>c1 h.1)]) (by unfold cL;rw[if_neg (by simp)])
 rcases k0 with ⟨k0,j0⟩ | ⟨k0,j0⟩
 ·rw[aD k0]
  rcases k1 with ⟨k1,j1⟩ | ⟨k1,j1⟩
  ·rw[aD k1,Dm];simp only[aa,decide_eq_true_eq]
   split
   ·rename_i c
    refine ⟨_,rfl,fun hb=>?_⟩
    have hb:=of_decide_eq_true hb
    refine ⟨by omega,by omega,by omega,fun v hv=>?_,fun e he=>?_,fun i hi=>?_⟩
    ·obtain ⟨i,hi,rfl⟩:=EC hv
     exact j0 i hi
    ·obtain ⟨i,hi,rfl⟩:=EC he
     obtain ⟨a1,a2,a3,a4⟩:=(j1 i hi).1
     exact ⟨⟨a2.1,by omega⟩,⟨a3.1,by omega⟩,a4⟩
    ·have:=(j1 (i+1) hi).2 (by omega)
     rwa [show (((i+1:Nat):Int) - 1)=(i:Int) from by omega] at this
   ·exact ⟨false,rfl,fun h=>by cases h⟩
  ·rw[cv k1];exact ⟨false,rfl,fun h=>by cases h⟩
 ·rw[cv k0];exact ⟨false,rfl,fun h=>by cases h⟩
end D
namespace D
open Go.RowKit
end D
namespace D
open Go.RowKit
section
variable {a:AutT} {n:Nat} (V:VA a n) (hn:n<=12)
include V hn
end
section
variable {a:AutT} {n:Nat} (V:VA a n) (hn:n<=12)
include V hn
end
section
variable {a:AutT} {n:Nat} (V:VA a n) (hn:n<=12)
include V
include hn
end
end D
namespace D
open Go.RowKit
section
variable {α:Type} {N:Nat} {F G:Nat->α}
end
abbrev EdT:=Int×Int×Int×Int
abbrev ArT:=(Int×Bool)×Int×Int
def inv (e:EdT):ArT:=((e.1,true),2*e.2.2.2+1,e.2.1)
end D
namespace D
open Go.RowKit
section
variable {g:GrT} {a:AutT} (G:GOk g) (V:VA a a.2.1.length) (hn:a.2.1.length<=12)
include G V hn
end
section
variable {g:GrT} {a:AutT} {F:Nat->List Int} {N:Nat}
end
section
variable {g:GrT} {a:AutT} (G:GOk g) (V:VA a a.2.1.length) (hn:a.2.1.length<=12)
include G V hn
end
end D
namespace D
open Go.RowKit
section
variable {a:AutT} {n:Nat} (V:VA a n) (hn:n<=12)
include V hn
end
section
variable {g:GrT} {a:AutT} (G:GOk g) (V:VA a a.2.1.length) (hn:a.2.1.length<=12)
include G V hn
end
end D
namespace D
open Go.RowKit
section
variable {nx:Int->List Int} {N:Nat} {v:Int} (hv:0<=v/\v<N) (hn: ∀x:Int,0<=x->x<N-> ∀y∈nx x,0<=y/\y<N)
include hv
include hn
end
end D
namespace D
open Go.RowKit
section
variable {nx:Int->List Int} {N:Nat} {v:Int} (hN:N<=60) (hv:0<=v/\v<N) (hn: ∀x:Int,0<=x->x<N-> ∀y∈nx x,0<=y/\y<N) (hl: ∀x,(nx x).length<=100000)
include hN hv hn hl
end
end D
namespace D
open Go.RowKit
end D
namespace D
open Go.RowKit
theorem KW (g:GrT):fw g=b9 g:=by
 have h0:ld g=du g:=rfl
 have h1:hZ g=cL g:=by
  funext s
  unfold hZ cL
  split
  ·cases hx:aY g.2 s with
   | none=>rfl
   | some x=>rfl
  ·rfl
 unfold fw b9
 rw[h0,h1];rfl
def Uw (g:GrT) (a:AutT):Prop:=GOk g/\a.2.1.length<=12/\VA a a.2.1.length
section
variable {g:GrT} {a:AutT} (H:Uw g a)
include H
end
section
variable {g:GrT} {a:AutT} (H:Uw g a)
include H
end
section
variable {g:GrT} {a:AutT} (H:Uw g a) {x:Int} (hx:0<=x/\x<g.1.length)
include H hx
end
end D
namespace D
open Go.RowKit
abbrev Tok:=Int×Int×Int×Int
def ar (t:Tok):Int:=
 if t.1=1\/t.1=2 then (if t.2.1=0/\t.2.2.1=0/\t.2.2.2=0 then 0 else -1)
 else if t.1=3 then (if (0<=t.2.1/\t.2.1<=8)/\t.2.2.1=0/\t.2.2.2=0 then 0 else -1)
 else if t.1=4\/t.1=5 then (if t.2.1=0/\t.2.2.1=0/\t.2.2.2=0 then 2 else -1)
 else if t.1=6 then (if t.2.1=0/\t.2.2.1=0/\t.2.2.2=0 then 1 else -1)
 else if t.1=7 then (if t.2.1=0/\(0<=t.2.2.1/\t.2.2.1<=t.2.2.2)/\(1<=t.2.2.2/\t.2.2.2<=3) then 1 else -1)
 else -1
theorem NT (x:Int):ka x=some (decide (0<=x/\x<=8)):=by unfold ka;rw[H2];rfl
theorem NU (x:Int):ir x=some (decide (0<=x/\x<=8)):=by unfold ir;rw[Dm];rfl
theorem Vg (t:Tok):lh t=some (ar t):=by
 obtain ⟨k,l,lo,hi⟩:=t
 unfold lh ar
 simp only[NT,H2,aa]
 by_cases h1:k=1
 ·subst h1;simp;grind
 by_cases h2:k=2
 ·subst h2;simp;grind
 by_cases h3:k=3
 ·subst h3;simp;grind
 by_cases h4:k=4
 ·subst h4;simp;grind
 by_cases h5:k=5
 ·subst h5;simp;grind
 by_cases h6:k=6
 ·subst h6;simp;grind
 by_cases h7:k=7
 ·subst h7;simp;grind
 simp[h1,h2,h3,h4,h5,h6,h7]
theorem S6 (t:Tok):nP t=some (decide (0<=ar t)):=by
 obtain ⟨k,l,lo,hi⟩:=t
 unfold nP ar
 simp only[NU,Dm,aa]
 by_cases h1:k=1
 ·subst h1;simp;grind
 by_cases h2:k=2
 ·subst h2;simp;grind
 by_cases h3:k=3
 ·subst h3;simp only[]
  by_cases a:0<=l/\l<=8 <;> by_cases b:lo=0 <;> by_cases c:hi=0 <;> simp[a,b,c]
 by_cases h4:k=4
 ·subst h4;simp;grind
 by_cases h5:k=5
 ·subst h5;simp;grind
 by_cases h6:k=6
 ·subst h6;simp;grind
 by_cases h7:k=7
 ·subst h7;simp only[]
  by_cases a:l=0 <;> by_cases b:0<=lo/\lo<=hi <;> by_cases c:1<=hi/\hi<=3 <;> simp[a,b,c]
 simp[h1,h2,h3,h4,h5,h6,h7]
theorem sM (t:Tok): -1<=ar t/\ar t<=2:=by
 unfold ar
 grind
theorem lL {t:Tok} (h:0<=ar t):(ar t=2/\(t.1=4\/t.1=5))\/(ar t=1/\(t.1=6\/t.1=7))\/(ar t=0/\(t.1=1\/t.1=2\/t.1=3)):=by
 unfold ar at h⊢
 grind
theorem xP {t:Tok} (h:0<=ar t) (k:t.1=7):(0<=t.2.2.1/\t.2.2.1<=t.2.2.2)/\(1<=t.2.2.2/\t.2.2.2<=3):=by
 unfold ar at h
 grind
mutual
def flat:Tr Tok->List Tok
 | .nil=>[]
 | .node t ks=>ic ks++ [t]
def ic:List (Tr Tok)->List Tok
 | [] =>[]
 | k::ks=>flat k++ic ks
end
inductive WT:Tr Tok->Prop
 | node {t:Tok} {ks:List (Tr Tok)} :ar t=(ks.length:Int)->(∀k,k∈ks->WT k)->WT (.node t ks)
theorem nr: ∀(a b:List (Tr Tok)),ic (a++b)=ic a++ic b
 | [],b=>rfl
 | k::a,b=>by rw[List.cons_append,ic,ic,nr a b,ah]
theorem ko (x:Tr Tok):ic [x] =flat x:=by rw[ic,ic,List.append_nil]
theorem KX (x y:Tr Tok):ic [x,y] =flat x++flat y:=by rw[ic,ko]
theorem WT.cases {x:Tr Tok} (h:WT x):(∃t,x= .node t [] /\ar t=0)\/(∃t a,x= .node t [a] /\ar t=1/\WT a)\/ ∃t a b,x= .node t [a,b] /\ar t=2/\WT a/\WT b:=by
 cases h with
 | @node t ks h1 h2 =>
  have:=(sM t).2
  match ks,h1,h2 with
  | [],h1,h2=>exact .inl ⟨t,rfl,h1⟩
  | [a],h1,h2=>exact .inr (.inl ⟨t,a,rfl,h1,h2 a (by simp)⟩)
  | [a,b],h1,h2=>exact .inr (.inr ⟨t,a,b,rfl,h1,h2 a (by simp),h2 b (by simp)⟩)
  | _::_::_::_,h1,h2=>simp at h1;omega
theorem WT.ind {p:Tr Tok->Prop} (h0: ∀t,ar t=0->p (.node t [])) (h1: ∀t a,ar t=1->WT a->p a->p (.node t [a])) (h2: ∀t a b,ar t=2->WT a->WT b->p a->p b->p (.node t [a,b])) {x:Tr Tok} (h:WT x):p x:=by
 induction h with
 | @node t ks e k ih =>
  have:=(sM t).2
  match ks,e,k,ih with
  | [],e,k,ih=>exact h0 t e
  | [a],e,k,ih=>exact h1 t a e (k a (by simp)) (ih a (by simp))
  | [a,b],e,k,ih=>exact h2 t a b e (k a (by simp)) (k b (by simp)) (ih a (by simp)) (ih b (by simp))
  | _::_::_::_,e,_,_=>simp at e;omega
theorem yO (t:Tok):flat (.node t [])= [t]:=by rw[flat,ic];rfl
theorem Bg (t:Tok) (a:Tr Tok):flat (.node t [a])=flat a++ [t]:=by rw[flat,ko]
theorem rD (t:Tok) (a b:Tr Tok):flat (.node t [a,b])=(flat a++flat b)++ [t]:=by rw[flat,KX]
theorem WT.pos {x:Tr Tok} (h:WT x):1<=(flat x).length:=by
 cases h with
 | node h1 h2=>rw[flat];simp
def stp (s:List (Tr Tok)) (t:Tok):Option (List (Tr Tok)):=if ar t<0\/(s.length:Int)<ar t then none else some (s.take (s.length - (ar t).toNat)++ [.node t (s.drop (s.length - (ar t).toNat))])
def run:List (Tr Tok)->List Tok->Option (List (Tr Tok))
 | s,[] =>some s
 | s,t::l=>(stp s t).bind fun s'=>run s' l
theorem Bh: ∀(a:List Tok) {b:List Tok} {s:List (Tr Tok)},run s (a++b)=(run s a).bind fun s'=>run s' b
 | [],b,s=>rfl
 | t::a,b,s=>by
  rw[List.cons_append,run,run]
  cases stp s t with
  | none=>rfl
  | some s'=>exact Bh a
theorem sN {a:List Tok} {t:Tok} {s:List (Tr Tok)} :run s (a++ [t])=(run s a).bind fun s'=>stp s' t:=by
 rw[Bh]
 congr 1
 funext s'
 rw[run]
 cases stp s' t <;> rfl
theorem Pi: ∀ {l:List Tok} {s s':List (Tr Tok)},run s l=some s'->(∀k,k∈s->WT k)->(∀k,k∈s'->WT k)/\ic s'=ic s++l
 | [],s,s',h,hs=>by
  obtain rfl:=ae h
  exact ⟨hs,by simp⟩
 | t::l,s,s',h,hs=>by
  rw[run] at h
  unfold stp at h
  by_cases c:ar t<0\/(s.length:Int)<ar t
  ·rw[if_pos c] at h;cases h
  ·rw[if_neg c] at h
   have hlen:(s.drop (s.length - (ar t).toNat)).length=(ar t).toNat:=by rw[aS];omega
   obtain ⟨k1,k2⟩:=Pi (show run _ l=some s' from h) fun k hk=>by
    rcases aG hk with hk | hk
    ·exact hs k (List.mem_of_mem_take hk)
    ·obtain rfl:=aw hk
     exact .node (by rw[hlen];omega) fun k hk=>hs k (List.mem_of_mem_drop hk)
   refine ⟨k1,?_⟩
   rw[k2,nr,ko,flat,<-ah,<-nr,List.take_append_drop]
   simp
theorem NV {x:Tr Tok} (h:WT x): ∀s,run s (flat x)=some (s++ [x]):=by
 refine WT.ind (p:=fun x=> ∀s,run s (flat x)=some (s++ [x])) ?_ ?_ ?_ h
 ·intro t e s
  rw[yO,run,stp,if_neg (by omega),e]
  simp[run]
 ·intro t a e _ ia s
  rw[Bg,sN,ia]
  show stp (s++ [a]) t=_
  rw[stp,if_neg (by simp;omega),e]
  simp
 ·intro t a b e _ _ ia ib s
  rw[rD,sN,Bh,ia]
  show ((run (s++ [a]) (flat b)).bind fun s'=>stp s' t)=_
  rw[ib]
  show stp (s++ [a] ++ [b]) t=_
  rw[stp,if_neg (by simp;omega),e]
  have:(s++ [a] ++ [b]).length - (2:Int).toNat=s.length:=by simp
  rw[this]
  simp
def isX (e:List Tok):Bool:=match run [] e with
 | some [_] =>true
 | _=>false
theorem KY {e:List Tok} (h:isX e=true): ∃x,run [] e=some [x] /\WT x/\flat x=e:=by
 unfold isX at h
 split at h
 ·rename_i x hx
  obtain ⟨k1,k2⟩:=Pi hx (fun k hk=>by cases hk)
  refine ⟨x,hx,k1 x (by simp),?_⟩
  rw[ko] at k2
  rw[k2];rfl
 ·cases h
theorem KZ {l:List Tok} : ∀ {s s':List (Tr Tok)},run s l=some s'->s'.length<=s.length+l.length:=by
 induction l with
 | nil=>intro s s' h;obtain rfl:=ae h;simp
 | cons t l ih =>
  intro s s' h
  rw[run] at h
  obtain ⟨s1,h1,h2⟩:=Option.bind_eq_some_iff.1 h
  have h3:=ih h2
  unfold stp at h1
  split at h1
  ·cases h1
  ·obtain rfl:=ae h1
   simp only[aq,aC,ak,aH] at h3⊢
   omega
theorem xQ {e:List Tok} {i:Nat} (h:i<e.length):e.take (i+1)=e.take i++ [nth e (i:Int)]:=by
 rw[List.take_succ_eq_append_getElem h,b8 h]
theorem vM {e:List Tok} {i:Nat} (h:i<e.length) {st:List (Tr Tok)} (h1:run [] (e.take i)=some st) (h2:stp st (nth e (i:Int))=none):run [] e=none:=by
 have:run [] (e.take (i+1))=none:=by rw[xQ h,sN,h1];exact h2
 rw[<-List.take_append_drop (i+1) e,Bh,this];rfl
theorem NW {e:List Tok} (he:e.length<=1048576):qb e=some (isX e):=by
 obtain ⟨o,eo,hq⟩:=cO (f:=nJ e) (fun i s=> ∃st,s=((st.length:Int),(i:Int))/\run [] (e.take i)=some st) (fun o=>(o= .ret false/\run [] e=none)\/ ∃st,o= .brk ((st.length:Int),(e.length:Int))/\run [] e=some st) e.length (s:=(0,0)) (by
  rintro i s hi ⟨st,rfl,hst⟩
  have hl:=KZ hst
  simp only[aH,aC] at hl
  unfold nJ
  simp only[eT]
  by_cases c:i<e.length
  ·rw[if_pos (by simp;omega),aK (by omega) (by omega)];simp only[aa]
   rw[Vg];simp only[aa]
   have hr:=sM (nth e (i:Int))
   by_cases c1:ar (nth e (i:Int))<0
   ·refine .inr ⟨_,by rw[if_pos (by simpa using c1)],(fun s' e=>by cases e),.inl ⟨rfl,vM c hst ?_⟩⟩
    rw[stp,if_pos (.inl c1)]
   ·rw[if_neg (by simpa using c1)]
    by_cases c2:ar (nth e (i:Int))>(st.length:Int)
    ·refine .inr ⟨_,by rw[if_pos (by simpa using c2)],(fun s' e=>by cases e),.inl ⟨rfl,vM c hst ?_⟩⟩
     rw[stp,if_pos (.inr c2)]
    ·rw[if_neg (by simpa using c2)]
     refine .inl ⟨c,_,rfl,st.take (st.length - (ar (nth e (i:Int))).toNat)++ [.node (nth e (i:Int)) (st.drop (st.length - (ar (nth e (i:Int))).toNat))],?_,?_⟩
     ·rw[dY (n:=(st.length:Int) - ar (nth e (i:Int))) (by omega) (by omega),dY (by omega) (by omega),aj (by omega)]
      congr 1
      simp only[aq,aC,ak,aH]
      omega
     ·rw[xQ c,sN,hst]
      show stp st _=_
      rw[stp,if_neg (by omega)]
  ·obtain rfl:i=e.length:=by omega
   rw[List.take_of_length_le (by omega)] at hst
   exact .inr ⟨_,by rw[if_neg (by simp)],(fun s' e=>by cases e),.inr ⟨st,rfl,hst⟩⟩) ⟨[],rfl,rfl⟩ (rH (by omega))
 unfold qb
 rcases hq with ⟨rfl,h⟩ | ⟨st,rfl,h⟩
 ·rw[cv eo];unfold isX;rw[h]
 ·rw[aD eo];unfold isX;rw[h]
  match st with
  | [] =>rfl
  | [_] =>rfl
  | _::_::_=>simp;omega
theorem Ux {t:Tok} (h:0<=ar t):(Option.bind ((if t.1==4 then (some (t.1==4)) else (some (t.1==5)):Option Bool)) (fun s3=>if s3 then (some 2) else (Option.bind ((if t.1==6 then (some (t.1==6)) else (some (t.1==7)):Option Bool)) (fun s4=>if s4 then (some 1) else (some 0)))):Option Int)=some (ar t):=by
 rcases lL h with ⟨e,k | k⟩ | ⟨e,k | k⟩ | ⟨e,k | k | k⟩ <;> rw[e] <;> simp[k]
theorem Rq (t:Tok): ∃n:Int,(Option.bind ((if t.1==4 then (some (t.1==4)) else (some (t.1==5)):Option Bool)) (fun s3=>if s3 then (some 2) else (Option.bind ((if t.1==6 then (some (t.1==6)) else (some (t.1==7)):Option Bool)) (fun s4=>if s4 then (some 1) else (some 0)))):Option Int)=some n:=by
 by_cases h4:t.1=4
 ·exact ⟨2,by simp[h4]⟩
 by_cases h5:t.1=5
 ·exact ⟨2,by simp[h5]⟩
 by_cases h6:t.1=6
 ·exact ⟨1,by simp[h6]⟩
 by_cases h7:t.1=7
 ·exact ⟨1,by simp[h7]⟩
 exact ⟨0,by simp[h4,h5,h6,h7]⟩
def vu (e:List Tok):Tr Tok:=match run [] e with
 | some [x] =>x
 | _=>.nil
theorem Bi {e:List Tok} (he:e.length<=1048576):kT e=some (vu e):=by
 obtain ⟨o,eo,hq⟩:=cO (f:=nQ e) (fun i s=> ∃st,s=(st,(i:Int))/\run [] (e.take i)=some st) (fun o=>(o= .ret Tr.nil/\run [] e=none)\/ ∃st,o= .brk (st,(e.length:Int))/\run [] e=some st) e.length (s:=([],0)) (by
  rintro i s hi ⟨st,rfl,hst⟩
  have hl:=KZ hst
  simp only[aH,aC] at hl
  unfold nQ
  simp only[eT]
  by_cases c:i<e.length
  ·rw[if_pos (by simp;omega),aK (by omega) (by omega)];simp only[aa]
   have hr:=sM (nth e (i:Int))
   by_cases c1:ar (nth e (i:Int))<0
   ·obtain ⟨n,hn⟩:=Rq (nth e (i:Int))
    rw[hn];simp only[aa]
    rw[S6];simp only[aa]
    refine .inr ⟨_,by rw[if_neg (by simp;omega)],(fun s' e=>by cases e),.inl ⟨rfl,vM c hst ?_⟩⟩
    rw[stp,if_pos (.inl c1)]
   ·rw[Ux (by omega)];simp only[aa]
    rw[S6];simp only[aa]
    rw[if_pos (by simp;omega),dY (n:=(st.length:Int) - ar (nth e (i:Int))) (by omega) (by omega)]
    by_cases c2:ar (nth e (i:Int))>(st.length:Int)
    ·refine .inr ⟨_,by rw[if_pos (by simp;omega)],(fun s' e=>by cases e),.inl ⟨rfl,vM c hst ?_⟩⟩
     rw[stp,if_pos (.inr c2)]
    ·rw[if_neg (by simp;omega),show∀p:Prop,∀ [Decidable p],p->chk p=some () from fun p _ hp=>by unfold chk;rw[if_pos hp]]
     ·simp only[aa]
      have e1:((st.length:Int) - ar (nth e (i:Int))).toNat=st.length - (ar (nth e (i:Int))).toNat:=by omega
      rw[e1,aQ (by simp;omega)];simp only[aa]
      rw[aQ (by simp;omega)];simp only[aa,List.nil_append,aj (show i<9223372036854775807 by omega)]
      refine .inl ⟨c,_,rfl,_,rfl,?_⟩
      rw[xQ c,sN,hst]
      show stp st _=_
      rw[stp,if_neg (by omega)]
     ·omega
  ·obtain rfl:i=e.length:=by omega
   rw[List.take_of_length_le (by omega)] at hst
   exact .inr ⟨_,by rw[if_neg (by simp)],(fun s' e=>by cases e),.inr ⟨st,rfl,hst⟩⟩) ⟨[],rfl,rfl⟩ (rH (by omega))
 unfold kT
 rcases hq with ⟨rfl,h⟩ | ⟨st,rfl,h⟩
 ·rw[cv eo];unfold vu;rw[h]
 ·rw[aD eo];unfold vu;rw[h]
  match st with
  | [] =>rfl
  | [x] =>rfl
  | _::_::_ =>
   simp only
   rw[if_pos (by simp;omega)]
theorem tY {x:Tr Tok} (h:WT x):vu (flat x)=x:=by unfold vu;rw[NV h];rfl
theorem NX {e:List Tok} (he:e.length<=1048576):qe e=some (isX e):=by
 unfold qe
 rw[Bi he];simp only[aa]
 congr 1
 by_cases h:isX e=true
 ·rw[h]
  obtain ⟨x,h1,h2,h3⟩:=KY h
  have:vu e=x:=by unfold vu;rw[h1]
  rw[this]
  cases h2 with
  | node _ _=>rfl
 ·have:vu e= .nil:=by
   unfold vu
   unfold isX at h
   split
   ·rename_i x hx;rw[hx] at h;exact absurd rfl h
   ·rfl
  rw[this,Bool.eq_false_iff.2 h];rfl
theorem EG {e:List Tok} (he:e.length<=1048576):iQ e=some (decide (e.length<=24)&&isX e):=by
 unfold iQ
 rw[NW he]
 by_cases c:e.length<=24
 ·rw[if_pos (by simp;omega)];simp[c]
 ·rw[if_neg (by simp;omega)];simp[c]
theorem EH {e:List Tok} (he:e.length<=1048576):iW e=some (decide (e.length<=24)&&isX e):=by
 unfold iW
 rw[NX he]
 by_cases c:e.length<=24
 ·rw[if_pos (by simp;omega)];simp[c]
 ·rw[if_neg (by simp;omega)];simp[c]
theorem kG {p:Prop} [Decidable p] (h:p):chk p=some ():=by unfold chk;rw[if_pos h]
theorem Rr {A:List Tok} {x:Tr Tok} (hx:WT x) (hl:(A++flat x).length<=1000000):fQ (A++flat x)=some (A.length:Int):=by
 obtain ⟨s',e,ks,q1,q2,q3⟩: ∃s',aB (jN (A++flat x)) bg (1,((A++flat x).length:Int))=some (.brk s')/\ ∃ks:List (Tr Tok),ks= [] /\s'.2=(A.length:Int)/\True:=by
  obtain ⟨o,eo,hq⟩:=cO (f:=jN (A++flat x)) (fun i s=> ∃ks:List (Tr Tok),(∀k,k∈ks->WT k)/\s=((ks.length:Int),(((A++ic ks).length:Nat):Int))/\i+(ic ks).length=(flat x).length/\(A++flat x).take (A++ic ks).length=A++ic ks) (fun o=> ∃s',o= .brk s'/\s'.2=(A.length:Int)) (flat x).length (s:=(1,((A++flat x).length:Int))) (by
   rintro i s hi ⟨ks,hw,rfl,hlen,htk⟩
   unfold jN
   simp only[eT]
   rcases List.eq_nil_or_concat ks with rfl | ⟨ks',y,rfl⟩
   ·refine .inr ⟨_,by rw[if_neg (by simp)],(fun s' e=>by cases e),_,rfl,?_⟩
    simp[ic]
   ·have hy:=hw y (by simp)
    cases hy with
    | @node t cs h1 h2 =>
     have hfl:ic (ks'++ [.node t cs])=ic (ks'++cs)++ [t]:=by rw[nr,ko,flat,nr,ah]
     rw[List.concat_eq_append,hfl] at hlen htk⊢
     simp only[aq,ak,aH] at hlen htk hl⊢
     rw[if_pos (by simp <;> omega)]
     have hpos:IntKind.i64.wrap (((A.length+((ic (ks'++cs)).length+1):Nat):Int) - 1)=((A.length+(ic (ks'++cs)).length:Nat):Int):=by
      rw[dY (by omega) (by omega)];omega
     have hget:nth (A++flat x) ((A.length+(ic (ks'++cs)).length:Nat):Int)=t:=by
      have hlt:A.length+(ic (ks'++cs)).length<(A++flat x).length:=by rw[aq];omega
      have e1:=congrArg (fun l:List Tok=>l[A.length+(ic (ks'++cs)).length]?) htk
      rw[List.getElem?_take_of_lt (by omega),List.getElem?_eq_getElem hlt,<-ah,List.getElem?_append_right (by rw[aq];omega),aq] at e1
      rw[b8 hlt]
      simpa using e1
     rw[hpos,aK (by omega) (by simp only[aq];omega),hget];simp only[aa]
     rw[Vg,h1];simp only[aa]
     have hcl:(cs.length:Int)<=2:=by rw[<-h1];exact (sM t).2
     have hkl:ks'.length<=(ic (ks'++cs)).length+1000000:=by
      have: ∀l:List (Tr Tok),(∀k,k∈l->WT k)->l.length<=(ic l).length:=by
       intro l
       induction l with
       | nil=>intro _;simp
       | cons k l ih =>
        intro h
        have h1:=(h k (by simp)).pos
        have h2:=ih fun k hk=>h k (by simp[hk])
        rw[ic];simp only[ak,aq];omega
      have:=this ks' fun k hk=>hw k (by simp[hk])
      rw[nr,aq];omega
     refine .inl ⟨by omega,_,rfl,ks'++cs,fun k hk=>?_,?_,by omega,?_⟩
     ·rcases aG hk with hk | hk
      ·exact hw k (by simp[hk])
      ·exact h2 k hk
     ·rw[dY (n:=((ks'.length+1:Nat):Int) - 1) (by omega) (by omega),dY (by omega) (by omega)]
      congr 1
      (simp only[aq]) <;> omega
     ·have e1:=congrArg (List.take (A++ic (ks'++cs)).length) htk
      rw[List.take_take,Nat.min_eq_left (by rw[aq];omega),<-ah,List.take_left] at e1
      rw[aq] at e1
      exact e1) ⟨[x],fun k hk=>by (obtain rfl:=aw hk;exact hx),by rw[ko];rfl,by rw[ko];omega,by rw[ko,List.take_length]⟩ (rH (by rw[aq] at hl;omega))
  obtain ⟨s',rfl,h2⟩:=hq
  exact ⟨s',eo,[],rfl,h2,trivial⟩
 unfold fQ
 rw[aD e,q2]
end D
namespace D
open Go.RowKit
instance trInh {α:Type} :Inhabited (Tr α):=⟨.nil⟩
def szX:Tr Tok->Int
 | .nil=>0
 | .node t ks=>min (szL t 1 ks) 100000
where szL (t:Tok) (acc:Int):List (Tr Tok)->Int
 | [] =>acc
 | k::ks=>szL t (acc+(if t.1=7 then (szX k+3)*t.2.2.2 else szX k)) ks
theorem dW {x:Tr Tok} (h:WT x):1<=szX x/\szX x<=100000:=by
 refine WT.ind (p:=fun x=>1<=szX x/\szX x<=100000) ?_ ?_ ?_ h
 ·intro t _
  show 1<=min (1:Int) 100000/\min (1:Int) 100000<=100000
  omega
 ·intro t a e _ ih
  show 1<=min ((1:Int)+(if t.1=7 then (szX a+3)*t.2.2.2 else szX a)) 100000/\min ((1:Int)+(if t.1=7 then (szX a+3)*t.2.2.2 else szX a)) 100000<=100000
  split
  ·rename_i k
   have hr:=xP (show 0<=ar t by omega) k
   have:0<=(szX a+3)*t.2.2.2:=Int.mul_nonneg (by omega) (by omega)
   omega
  ·omega
 ·intro t a b e _ _ iha ihb
  have k:t.1≠7:=by
   rcases lL (show 0<=ar t by omega) with ⟨_,k⟩ | ⟨k,_⟩ | ⟨k,_⟩ <;> omega
  show 1<=min ((1:Int)+(if t.1=7 then (szX a+3)*t.2.2.2 else szX a)+(if t.1=7 then (szX b+3)*t.2.2.2 else szX b)) 100000/\min ((1:Int)+(if t.1=7 then (szX a+3)*t.2.2.2 else szX a)+(if t.1=7 then (szX b+3)*t.2.2.2 else szX b)) 100000<=100000
  rw[if_neg k,if_neg k]
  omega
theorem Dc {a h:Int} (h1:1<=a/\a<=100000) (h2:1<=h/\h<=3):IntKind.i64.wrap ((IntKind.i64.wrap (a+3))*h)=(a+3)*h:=by
 rw[dY (n:=a+3) (by omega) (by omega)]
 have k1:0<=(a+3)*h:=Int.mul_nonneg (by omega) (by omega)
 have k2:(a+3)*h<=100003*3:=Int.mul_le_mul (by omega) (by omega) (by omega) (by omega)
 exact dY (by omega) (by omega)
theorem K0 {a h:Int} (h1:1<=a/\a<=100000) (h2:1<=h/\h<=3):0<=(a+3)*h/\(a+3)*h<=300009:=by
 have k1:0<=(a+3)*h:=Int.mul_nonneg (by omega) (by omega)
 have k2:(a+3)*h<=100003*3:=Int.mul_le_mul (by omega) (by omega) (by omega) (by omega)
 omega
theorem nt {t:Tok} {ks:List (Tr Tok)} :Tr.get (.node t ks)=some (t,ks):=rfl
theorem tZ {f:Tr Tok->Option Int} {t:Tok} {ks:List (Tr Tok)} {i:Nat} {acc:Int} (hi:i<ks.length) (hf:f (nth ks (i:Int))=some (szX (nth ks (i:Int)))) (hw:WT (nth ks (i:Int))) (ht:0<=ar t) (ha:0<=acc/\acc<=1000000) (hik:i<=1000000) :
  bz f (.node t ks) (t,ks) (acc,(i:Int))=some (.nxt (acc+(if t.1=7 then (szX (nth ks (i:Int))+3)*t.2.2.2 else szX (nth ks (i:Int))),((i+1:Nat):Int))):=by
 unfold bz
 simp only[nt]
 have hr:=dW hw
 rw[if_pos (by simp <;> omega),aK (by omega) (by omega)];simp only[aa]
 by_cases k:t.1=7
 ·have h7:=xP ht k
  have hm:=K0 hr h7.2
  rw[if_pos (by simpa using k),if_pos k,hf];simp only[aa]
  rw[Dc hr h7.2,dY (by omega) (by omega),aj (by omega)]
 ·rw[if_neg (by simpa using k),if_neg k,hf];simp only[aa]
  rw[dY (by omega) (by omega),aj (by omega)]
theorem vN {α:Type} [Inhabited α] {a:α} {l:List α} :nth (a::l) ((0:Nat):Int)=a:=rfl
theorem K4 {α:Type} [Inhabited α] {a b:α} {l:List α} :nth (a::b::l) ((1:Nat):Int)=b:=rfl
theorem Rs {x:Tr Tok} (h:WT x): ∀n,(flat x).length<=n->bJ n x=some (szX x):=by
 refine WT.ind (p:=fun x=> ∀n,(flat x).length<=n->bJ n x=some (szX x)) ?_ ?_ ?_ h
 ·intro t e n hn
  rw[yO] at hn
  match n,hn with
  | n+1,_ =>
   rw[bJ];simp only[nt,aa]
   have hL:aB (bz (bJ n) (.node t []) (t,[])) bg (1,0)=some (.brk (1,0)):=bK (f:=bz (bJ n) (.node t []) (t,[])) (fun i=>(1,(i:Int))) 0 (fun i hi=>by omega) (by unfold bz;simp) (by unfold bg;omega)
   rw[aD hL]
   all_goals rfl
 ·intro t a e wa ih n hn
  rw[Bg,aq] at hn
  match n,hn with
  | n+1,hn =>
   have hr:=dW wa
   rw[bJ];simp only[nt,aa]
   have hL:aB (bz (bJ n) (.node t [a]) (t,[a])) bg (1,0)=some (.brk (szX.szL t 1 [a],1)):=bK (f:=bz (bJ n) (.node t [a]) (t,[a])) (fun i=>(szX.szL t 1 ([a].take i),(i:Int))) 1 (fun i hi=>by
    obtain rfl:i=0:=by omega
    exact tZ (acc:=1) (i:=0) (by simp) (ih n (by simp at hn;omega)) wa (by omega) (by omega) (by omega)) (by unfold bz;simp) (by unfold bg;omega)
   rw[aD hL]
   all_goals rfl
 ·intro t a b e wa wb iha ihb n hn
  rw[rD,aq,aq] at hn
  match n,hn with
  | n+1,hn =>
   have hra:=dW wa
   have hrb:=dW wb
   have k:t.1≠7:=by
    rcases lL (show 0<=ar t by omega) with ⟨_,k⟩ | ⟨k,_⟩ | ⟨k,_⟩ <;> omega
   rw[bJ];simp only[nt,aa]
   have hL:aB (bz (bJ n) (.node t [a,b]) (t,[a,b])) bg (1,0)=some (.brk (szX.szL t 1 [a,b],2)):=bK (f:=bz (bJ n) (.node t [a,b]) (t,[a,b])) (fun i=>(szX.szL t 1 ([a,b].take i),(i:Int))) 2 (fun i hi=>by
    have:i=0\/i=1:=by omega
    rcases this with rfl | rfl
    ·exact tZ (acc:=1) (i:=0) (by simp) (iha n (by simp at hn;omega)) wa (by omega) (by omega) (by omega)
    ·exact tZ (acc:=1+(if t.1=7 then (szX a+3)*t.2.2.2 else szX a)) (i:=1) (by simp) (ihb n (by simp at hn;omega)) wb (by omega) (by rw[if_neg k];omega) (by omega)) (by unfold bz;simp) (by unfold bg;omega)
   rw[aD hL]
   all_goals rfl
theorem kS {A:List Tok} {t:Tok} (h:A.length<=1000000):aY (A++ [t]) (IntKind.i64.wrap (((A++ [t]).length:Int) - 1))=some t/\IntKind.i64.wrap (((A++ [t]).length:Int) - 1)=(A.length:Int):=by
 have e:IntKind.i64.wrap (((A++ [t]).length:Int) - 1)=(A.length:Int):=by
  rw[dY (by simp only[aq,ak,aH];omega) (by simp only[aq,ak,aH];omega)]
  simp only[aq,ak,aH];omega
 refine ⟨?_,e⟩
 rw[e,aK (by omega) (by simp only[aq,ak,aH];omega),b8 (by simp)]
 simp
theorem Vh {t:Tok} (h:ar t=2):(if t.1==4 then (some (t.1==4)) else (some (t.1==5)):Option Bool)=some true:=by
 rcases lL (show 0<=ar t by omega) with ⟨_,k | k⟩ | ⟨e,_⟩ | ⟨e,_⟩
 ·simp[k]
 ·simp[k]
 ·omega
 ·omega
theorem NY {t:Tok} (h:ar t=1\/ar t=0):(if t.1==4 then (some (t.1==4)) else (some (t.1==5)):Option Bool)=some false:=by
 rcases lL (show 0<=ar t by omega) with ⟨e,k⟩ | ⟨e,k | k⟩ | ⟨e,k | k | k⟩
 ·omega
 all_goals simp[k]
theorem S7 {t:Tok} (h:ar t=0):(t.1==6)=false/\(t.1==7)=false:=by
 rcases lL (show 0<=ar t by omega) with ⟨e,k⟩ | ⟨e,k | k⟩ | ⟨e,k | k | k⟩
 ·omega
 ·omega
 ·omega
 all_goals simp[k]
theorem NZ {t:Tok} (h:ar t=1):((t.1==6)=true/\t.1=6)\/((t.1==6)=false/\(t.1==7)=true/\t.1=7):=by
 rcases lL (show 0<=ar t by omega) with ⟨e,k⟩ | ⟨e,k | k⟩ | ⟨e,k | k | k⟩
 ·omega
 ·left;simp[k]
 ·right;simp[k]
 all_goals omega
theorem xR {a b:Tr Tok} {t:Tok} (wb:WT b) (hl:((flat a++flat b)++ [t]).length<=1000000) :
  (((flat a++flat b)++ [t]).take ((((flat a++flat b).length:Nat):Int)).toNat)=flat a++flat b /\
  fQ (flat a++flat b)=some (((flat a).length:Nat):Int) /\
  (((flat a++flat b)++ [t]).take ((((flat a).length:Nat):Int)).toNat)=flat a /\
  (flat a++flat b).drop ((((flat a).length:Nat):Int)).toNat=flat b:=by
 refine ⟨?_,Rr wb (by simp only[aq,ak,aH] at hl⊢;omega),?_,?_⟩
 ·rw[Int.toNat_natCast,List.take_left]
 ·rw[Int.toNat_natCast,ah,List.take_left]
 ·rw[Int.toNat_natCast,List.drop_left]
theorem S8 {x:Tr Tok} (h:WT x): ∀n,(flat x).length<=n->(flat x).length<=1000000->dt n (flat x)=some (szX x):=by
 refine WT.ind (p:=fun x=> ∀n,(flat x).length<=n->(flat x).length<=1000000->dt n (flat x)=some (szX x)) ?_ ?_ ?_ h
 ·intro t e n hn hl
  rw[yO] at hn hl⊢
  match n,hn with
  | n+1,_ =>
   have hk:=S7 e
   rw[dt]
   have:=(kS (A:=[]) (t:=t) (by simp)).1
   rw[List.nil_append] at this
   rw[this];simp only[aa]
   rw[NY (.inr e)];simp only[aa,hk.1,hk.2,Bool.false_eq_true,if_false]
   rfl
 ·intro t a e wa ih n hn hl
  rw[Bg] at hn hl⊢
  simp only[aq,ak,aH] at hn hl
  match n,hn with
  | n+1,hn =>
   have hr:=dW wa
   rw[dt]
   obtain ⟨l1,l2⟩:=kS (A:=flat a) (t:=t) (by omega)
   rw[l1];simp only[aa]
   rw[NY (.inl e)];simp only[aa,Bool.false_eq_true,if_false]
   rw[l2,Int.toNat_natCast,List.take_left,kG (by simp only[aq,ak,aH];omega)];simp only[aa]
   rw[ih n (by omega) (by omega)];simp only[aa]
   rcases NZ e with ⟨k1,k2⟩ | ⟨k1,k2,k3⟩
   ·rw[if_pos k1,dY (by omega) (by omega)]
    show some (min 100000 (szX a+1))=some (min ((1:Int)+(if t.1=7 then (szX a+3)*t.2.2.2 else szX a)) 100000)
    rw[if_neg (by omega)]
    congr 1;omega
   ·have h7:=xP (show 0<=ar t by omega) k3
    have hm:=K0 hr h7.2
    rw[if_neg (by simp[k1]),if_pos k2,Dc hr h7.2,dY (by omega) (by omega)]
    show some (min 100000 ((szX a+3)*t.2.2.2+1))=some (min ((1:Int)+(if t.1=7 then (szX a+3)*t.2.2.2 else szX a)) 100000)
    rw[if_pos k3]
    congr 1;omega
 ·intro t a b e wa wb iha ihb n hn hl
  rw[rD] at hn hl⊢
  obtain ⟨p1,p2,p3,p4⟩:=xR (a:=a) (t:=t) wb hl
  simp only[aq,ak,aH] at hn hl
  match n,hn with
  | n+1,hn =>
   have hra:=dW wa
   have hrb:=dW wb
   have k:t.1≠7:=by
    rcases lL (show 0<=ar t by omega) with ⟨_,k⟩ | ⟨k,_⟩ | ⟨k,_⟩ <;> omega
   rw[dt]
   obtain ⟨l1,l2⟩:=kS (A:=flat a++flat b) (t:=t) (by rw[aq];omega)
   rw[l1];simp only[aa]
   rw[Vh e];simp only[aa,if_true]
   rw[l2,p1,p2,kG (by simp only[aq,ak,aH];omega)];simp only[aa]
   rw[kG (by simp only[aq,ak,aH];omega),p3,p4];simp only[aa]
   rw[iha n (by omega) (by omega),kG (by simp only[aq,ak,aH];omega)];simp only[aa]
   rw[ihb n (by have:=wa.pos;omega) (by omega)];simp only[aa]
   rw[dY (n:=szX a+szX b) (by omega) (by omega),dY (by omega) (by omega)]
   show some (min 100000 (szX a+szX b+1))=some (min ((1:Int)+(if t.1=7 then (szX a+3)*t.2.2.2 else szX a)+(if t.1=7 then (szX b+3)*t.2.2.2 else szX b)) 100000)
   rw[if_neg k,if_neg k]
   congr 1;omega
def N1:Tr Tok:=.node (2,0,0,0) []
def EI (x:Tr Tok):Nat->Int->Tr Tok
 | 0,_=>N1
 | h+1,low=>if 0<low then .node (4,0,0,0) [x,EI x h (max 0 (low - 1))] else .node (5,0,0,0) [.node (4,0,0,0) [x,EI x h (max 0 (low - 1))],N1]
mutual
def oS:Tr Tok->Tr Tok
 | .nil=>.nil
 | .node t ks=>if t.1=7 then EI ((LA ks).headD .nil) t.2.2.2.toNat t.2.2.1 else .node t (LA ks)
def LA:List (Tr Tok)->List (Tr Tok)
 | [] =>[]
 | k::ks=>oS k::LA ks
end
theorem ar4:ar (4,0,0,0)=2:=by decide
theorem ar5:ar (5,0,0,0)=2:=by decide
theorem ar2:ar (2,0,0,0)=0:=by decide
theorem K5:WT N1:=.node ar2 fun k hk=>by cases hk
theorem sO:flat N1= [(2,0,0,0)]:=yO _
theorem WT.two {t:Tok} {a b:Tr Tok} (h:ar t=2) (ha:WT a) (hb:WT b):WT (.node t [a,b]):=.node h fun k hk=>by
 rcases aA hk with rfl | hk
 ·exact ha
 ·obtain rfl:=aw hk
  exact hb
theorem WT.one {t:Tok} {a:Tr Tok} (h:ar t=1) (ha:WT a):WT (.node t [a]):=.node h fun k hk=>by
 obtain rfl:=aw hk
 exact ha
theorem EJ {x:Tr Tok} (hx:WT x): ∀(h:Nat) (low:Int),WT (EI x h low)
 | 0,_=>K5
 | h+1,low=>by
  rw[EI]
  split
  ·exact .two ar4 hx (EJ hx h _)
  ·exact .two ar5 (.two ar4 hx (EJ hx h _)) K5
theorem Bj (x:Tr Tok): ∀(h:Nat) (low:Int),(flat (EI x h low)).length<=((flat x).length+3)*h+1
 | 0,_=>by rw[EI,sO];simp
 | h+1,low=>by
  have ih:=Bj x h (max 0 (low - 1))
  rw[EI]
  split
  ·rw[rD];simp only[aq,ak,aH]
   rw[Nat.mul_succ];omega
  ·rw[rD,rD,sO];simp only[aq,ak,aH]
   rw[Nat.mul_succ];omega
theorem TX {t:Tok} {a:Tr Tok} :oS (.node t [a])=if t.1=7 then EI (oS a) t.2.2.2.toNat t.2.2.1 else .node t [oS a]:=by rw[oS,LA,LA];rfl
theorem exp2 {t:Tok} {a b:Tr Tok} (h:t.1≠7):oS (.node t [a,b])= .node t [oS a,oS b]:=by rw[oS,if_neg h,LA,LA,LA]
theorem TY {t:Tok} (h:t.1≠7):oS (.node t [])= .node t []:=by rw[oS,if_neg h,LA]
theorem no7 {t:Tok} (h:ar t=2\/ar t=0):t.1≠7:=by
 rcases lL (show 0<=ar t by omega) with ⟨_,k⟩ | ⟨k,_⟩ | ⟨_,k⟩ <;> omega
theorem Pj {x:Tr Tok} (h:WT x):WT (oS x):=by
 refine WT.ind (p:=fun x=>WT (oS x)) ?_ ?_ ?_ h
 ·intro t e
  rw[TY (no7 (.inr e))]
  exact .node e fun k hk=>by cases hk
 ·intro t a e _ ih
  rw[TX]
  split
  ·exact EJ ih _ _
  ·exact .one e ih
 ·intro t a b e _ _ iha ihb
  rw[exp2 (no7 (.inl e))]
  exact .two e iha ihb
theorem Bk {x:Tr Tok} (h:WT x):szX x<100000->((flat (oS x)).length:Int)<=szX x:=by
 refine WT.ind (p:=fun x=>szX x<100000->((flat (oS x)).length:Int)<=szX x) ?_ ?_ ?_ h
 ·intro t e _
  rw[TY (no7 (.inr e)),yO]
  show (1:Int)<=min 1 100000
  omega
 ·intro t a e wa ih hs
  have hr:=dW wa
  have hs':min ((1:Int)+(if t.1=7 then (szX a+3)*t.2.2.2 else szX a)) 100000<100000:=hs
  show _<=min ((1:Int)+(if t.1=7 then (szX a+3)*t.2.2.2 else szX a)) 100000
  rw[TX]
  by_cases k:t.1=7
  ·rw[if_pos k] at hs'⊢
   rw[if_pos k]
   have h7:=xP (show 0<=ar t by omega) k
   have hge:szX a+3<=(szX a+3)*t.2.2.2:=by
    have:=Int.mul_le_mul_of_nonneg_left (c:=szX a+3) h7.2.1 (by omega)
    omega
   have h1:=ih (by omega)
   have h2:=Bj (oS a) t.2.2.2.toNat t.2.2.1
   have h3:(((flat (oS a)).length+3)*t.2.2.2.toNat:Int)<=(szX a+3)*t.2.2.2:=by
    rw[Int.toNat_of_nonneg (by omega)]
    exact Int.mul_le_mul_of_nonneg_right (by omega) (by omega)
   have h4:((flat (EI (oS a) t.2.2.2.toNat t.2.2.1)).length:Int)<=(((flat (oS a)).length+3)*t.2.2.2.toNat:Int)+1:=by exact_mod_cast h2
   omega
  ·rw[if_neg k] at hs'⊢
   rw[if_neg k,Bg]
   have h1:=ih (by omega)
   simp only[aq,ak,aH]
   omega
 ·intro t a b e wa wb iha ihb hs
  have hra:=dW wa
  have hrb:=dW wb
  have k:=no7 (.inl e)
  have hs':min ((1:Int)+(if t.1=7 then (szX a+3)*t.2.2.2 else szX a)+(if t.1=7 then (szX b+3)*t.2.2.2 else szX b)) 100000<100000:=hs
  show _<=min ((1:Int)+(if t.1=7 then (szX a+3)*t.2.2.2 else szX a)+(if t.1=7 then (szX b+3)*t.2.2.2 else szX b)) 100000
  rw[if_neg k,if_neg k] at hs'⊢
  rw[exp2 k,rD]
  have h1:=iha (by omega)
  have h2:=ihb (by omega)
  simp only[aq,ak,aH]
  omega
theorem zO {x:Tr Tok} : ∀(h n:Nat) (low:Int),h<n->h<=3->0<=low->low<=3->iu n x low (h:Int)=some (EI x h low)
 | 0,n+1,low,_,_,_,_=>by
  rw[iu,if_pos (by rfl)];rfl
 | h+1,n+1,low,h1,h2,h3,h4=>by
  rw[iu,if_neg (by simp;omega),dY (n:=low - 1) (by omega) (by omega),dY (n:=((h+1:Nat):Int) - 1) (by omega) (by omega)]
  rw[show ((h+1:Nat):Int) - 1=(h:Int) from by omega,zO h n (max 0 (low - 1)) (by omega) (by omega) (by omega) (by omega)];simp only[aa]
  rw[EI]
  by_cases c:0<low
  ·rw[if_pos (by simpa using c),if_pos c]
  ·rw[if_neg (by simpa using c),if_neg c];rfl
theorem Gk {a b:List Tok} {t:Tok} (h:a.length+b.length<=1000000):jy a b t=some ((a++b)++ [t]):=by
 unfold jy jx
 rw[aQ (by simp only[aq,ak,aH];omega)];simp only[aa,List.nil_append]
 rw[aQ (by omega)];simp only[aa]
 rw[aQ (by simp only[aq,ak,aH];omega)];rfl
theorem K6 {x:Tr Tok} : ∀(h n:Nat) (low:Int),h<n->h<=3->0<=low->low<=3->(flat x).length<=100000->ij n (flat x) low (h:Int)=some (flat (EI x h low))
 | 0,n+1,low,_,_,_,_,_=>by
  rw[ij,if_pos (by rfl),EI,sO];rfl
 | h+1,n+1,low,h1,h2,h3,h4,h5=>by
  rw[ij,if_neg (by simp;omega),dY (n:=low - 1) (by omega) (by omega),dY (n:=((h+1:Nat):Int) - 1) (by omega) (by omega)]
  rw[show ((h+1:Nat):Int) - 1=(h:Int) from by omega,K6 h n (max 0 (low - 1)) (by omega) (by omega) (by omega) (by omega) h5];simp only[aa]
  have hl:=Bj x h (max 0 (low - 1))
  have hl3:((flat x).length+3)*h<=100003*3:=Nat.mul_le_mul (by omega) (by omega)
  rw[Gk (by omega),EI];simp only[aa]
  by_cases c:0<low
  ·rw[if_pos (by simpa using c),if_pos c,rD]
  ·rw[if_neg (by simpa using c),if_neg c,rD,rD,sO]
   show (mM 2).bind _=_
   unfold mM;simp only[aa]
   rw[Gk (by simp only[aq,ak,aH];omega)];rfl
theorem sP:1000000000000<=fu:=by rw[LQ];unfold bg;omega
theorem N2 {x:Tr Tok} (h:WT x): ∀n,(flat x).length<=n->br n x=some (oS x):=by
 have hF:=sP
 refine WT.ind (p:=fun x=> ∀n,(flat x).length<=n->br n x=some (oS x)) ?_ ?_ ?_ h
 ·intro t e n hn
  rw[yO] at hn
  have k:=no7 (.inr e)
  match n,hn with
  | n+1,_ =>
   rw[br];simp only[nt,aa]
   rw[if_neg (by simpa using k),TY k]
   have hL:aB (bj (br n) (t,[])) bg (0,t.1,t.2.1,t.2.2.1,t.2.2.2,[])=some (.brk (0,t.1,t.2.1,t.2.2.1,t.2.2.2,[])):=bK (f:=bj (br n) (t,[])) (fun i=>((i:Int),t.1,t.2.1,t.2.2.1,t.2.2.2,LA (([] :List (Tr Tok)).take i))) 0 (fun i hi=>by omega) (by unfold bj;simp) (by unfold bg;omega)
   rw[aD hL]
   all_goals rfl
 ·intro t a e wa ih n hn
  rw[Bg,aq] at hn
  match n,hn with
  | n+1,hn =>
   have ia:=ih n (by simp at hn;omega)
   rw[br,TX];simp only[nt,aa]
   rcases NZ e with ⟨k1,k2⟩ | ⟨k1,k2,k3⟩
   ·rw[if_neg (by simp;omega),if_neg (by omega)]
    have hL:aB (bj (br n) (t,[a])) bg (0,t.1,t.2.1,t.2.2.1,t.2.2.2,[])=some (.brk (1,t.1,t.2.1,t.2.2.1,t.2.2.2,[oS a])):=bK (f:=bj (br n) (t,[a])) (fun i=>((i:Int),t.1,t.2.1,t.2.2.1,t.2.2.2,[oS a].take i)) 1 (fun i hi=>by
     obtain rfl:i=0:=by omega
     unfold bj
     simp only
     rw[if_pos (by simp),aK (by omega) (by simp),vN];simp only[aa]
     rw[ia];simp only[aa]
     rw[aQ (by simp)];rfl) (by unfold bj;simp) (by unfold bg;omega)
    rw[aD hL]
    all_goals rfl
   ·have h7:=xP (show 0<=ar t by omega) k3
    rw[if_pos k2,if_pos k3,show aY [a] 0=some a from rfl];simp only[aa]
    rw[ia];simp only[aa]
    have:=zO (x:=oS a) t.2.2.2.toNat fu t.2.2.1 (by omega) (by omega) (by omega) (by omega)
    rw[Int.toNat_of_nonneg (by omega)] at this
    rw[this];rfl
 ·intro t a b e wa wb iha ihb n hn
  rw[rD,aq,aq] at hn
  have k:=no7 (.inl e)
  match n,hn with
  | n+1,hn =>
   have ia:=iha n (by simp at hn;omega)
   have ib:=ihb n (by simp at hn;omega)
   rw[br,exp2 k];simp only[nt,aa]
   rw[if_neg (by simpa using k)]
   have hL:aB (bj (br n) (t,[a,b])) bg (0,t.1,t.2.1,t.2.2.1,t.2.2.2,[])=some (.brk (2,t.1,t.2.1,t.2.2.1,t.2.2.2,[oS a,oS b])):=bK (f:=bj (br n) (t,[a,b])) (fun i=>((i:Int),t.1,t.2.1,t.2.2.1,t.2.2.2,[oS a,oS b].take i)) 2 (fun i hi=>by
    have:i=0\/i=1:=by omega
    rcases this with rfl | rfl
    ·unfold bj
     simp only
     rw[if_pos (by simp),aK (by omega) (by simp),vN];simp only[aa]
     rw[ia];simp only[aa]
     rw[aQ (by simp)];rfl
    ·unfold bj
     simp only
     rw[if_pos (by simp),aK (by omega) (by simp),K4];simp only[aa]
     rw[ib];simp only[aa]
     rw[aQ (by simp)];rfl) (by unfold bj;simp) (by unfold bg;omega)
   rw[aD hL]
   all_goals rfl
theorem K7 {x:Tr Tok} (h:WT x): ∀n out,(flat x).length<=n->out.length+(flat x).length<=1000000->bp n x out=some (out++flat x):=by
 refine WT.ind (p:=fun x=> ∀n out,(flat x).length<=n->out.length+(flat x).length<=1000000->bp n x out=some (out++flat x)) ?_ ?_ ?_ h
 ·intro t e n out hn hl
  rw[yO] at hn hl⊢
  simp only[ak,aH] at hl
  match n,hn with
  | n+1,_ =>
   rw[bp];simp only[nt,aa]
   have hL:aB (bc (bp n) (t,[])) bg (0,out)=some (.brk (0,out)):=bK (f:=bc (bp n) (t,[])) (fun i=>((i:Int),out)) 0 (fun i hi=>by omega) (by unfold bc;simp) (by unfold bg;omega)
   rw[aD hL]
   simp only
   rw[aQ (by simp;omega)];rfl
 ·intro t a e wa ih n out hn hl
  rw[Bg] at hn hl⊢
  simp only[aq,ak,aH] at hn hl
  match n,hn with
  | n+1,hn =>
   rw[bp];simp only[nt,aa]
   have hL:aB (bc (bp n) (t,[a])) bg (0,out)=some (.brk (1,out++flat a)):=bK (f:=bc (bp n) (t,[a])) (fun i=>((i:Int),if i=0 then out else out++flat a)) 1 (fun i hi=>by
    obtain rfl:i=0:=by omega
    unfold bc
    simp only
    rw[if_pos (by simp),aK (by omega) (by simp),vN];simp only[aa,if_true]
    rw[ih n _ (by omega) (by omega)];rfl) (by unfold bc;simp) (by unfold bg;omega)
   rw[aD hL]
   simp only
   rw[aQ (by simp;omega)];simp
 ·intro t a b e wa wb iha ihb n out hn hl
  rw[rD] at hn hl⊢
  simp only[aq,ak,aH] at hn hl
  match n,hn with
  | n+1,hn =>
   rw[bp];simp only[nt,aa]
   have hL:aB (bc (bp n) (t,[a,b])) bg (0,out)=some (.brk (2,(out++flat a)++flat b)):=bK (f:=bc (bp n) (t,[a,b])) (fun i=>((i:Int),if i=0 then out else if i=1 then out++flat a else (out++flat a)++flat b)) 2 (fun i hi=>by
    have:i=0\/i=1:=by omega
    rcases this with rfl | rfl
    ·unfold bc
     simp only
     rw[if_pos (by simp),aK (by omega) (by simp),vN];simp only[aa,if_true]
     rw[iha n _ (by omega) (by omega)];rfl
    ·unfold bc
     simp only
     rw[if_pos (by simp),aK (by omega) (by simp),K4];simp only[aa,if_true]
     rw[ihb n _ (by omega) (by simp;omega)];rfl) (by unfold bc;simp) (by unfold bg;omega)
   rw[aD hL]
   simp only
   rw[aQ (by simp;omega)];simp
theorem N3 {x:Tr Tok} (h:WT x): ∀n,(flat x).length<=n->(flat x).length<=1000000->szX x<=50000->cA n (flat x)=some (flat (oS x)):=by
 have hF:=sP
 refine WT.ind (p:=fun x=> ∀n,(flat x).length<=n->(flat x).length<=1000000->szX x<=50000->cA n (flat x)=some (flat (oS x))) ?_ ?_ ?_ h
 ·intro t e n hn hl hs
  rw[yO] at hn hl⊢
  match n,hn with
  | n+1,_ =>
   have hk:=S7 e
   rw[cA]
   have:=(kS (A:=[]) (t:=t) (by simp)).1
   rw[List.nil_append] at this
   rw[this];simp only[aa]
   rw[NY (.inr e)];simp only[aa,hk.1,hk.2,Bool.false_eq_true,if_false]
   rw[TY (no7 (.inr e)),yO]
 ·intro t a e wa ih n hn hl hs
  have hs':min ((1:Int)+(if t.1=7 then (szX a+3)*t.2.2.2 else szX a)) 100000<=50000:=hs
  rw[Bg] at hn hl⊢
  simp only[aq,ak,aH] at hn hl
  match n,hn with
  | n+1,hn =>
   have hr:=dW wa
   have hsa:szX a<=50000:=by
    by_cases k:t.1=7
    ·rw[if_pos k] at hs'
     have h7:=xP (show 0<=ar t by omega) k
     have hge:szX a+3<=(szX a+3)*t.2.2.2:=by
      have:=Int.mul_le_mul_of_nonneg_left (c:=szX a+3) h7.2.1 (by omega)
      omega
     omega
    ·rw[if_neg k] at hs';omega
   have hla:=Bk wa (by omega)
   rw[cA]
   obtain ⟨l1,l2⟩:=kS (A:=flat a) (t:=t) (by omega)
   rw[l1];simp only[aa]
   rw[NY (.inl e)];simp only[aa,Bool.false_eq_true,if_false]
   rw[l2,Int.toNat_natCast,List.take_left,kG (by simp only[aq,ak,aH];omega)];simp only[aa]
   rw[ih n (by omega) (by omega) hsa,TX];simp only[aa]
   rcases NZ e with ⟨k1,k2⟩ | ⟨k1,k2,k3⟩
   ·rw[if_pos k1,if_neg (by omega),Gk (by simp;omega),Bg];simp
   ·have h7:=xP (show 0<=ar t by omega) k3
    rw[if_neg (by simp[k1]),if_pos k2,if_pos k3]
    have:=K6 (x:=oS a) t.2.2.2.toNat fu t.2.2.1 (by omega) (by omega) (by omega) (by omega) (by omega)
    rw[Int.toNat_of_nonneg (by omega)] at this
    rw[this];rfl
 ·intro t a b e wa wb iha ihb n hn hl hs
  have k:=no7 (.inl e)
  have hs':min ((1:Int)+(if t.1=7 then (szX a+3)*t.2.2.2 else szX a)+(if t.1=7 then (szX b+3)*t.2.2.2 else szX b)) 100000<=50000:=hs
  rw[if_neg k,if_neg k] at hs'
  rw[rD] at hn hl⊢
  obtain ⟨p1,p2,p3,p4⟩:=xR (a:=a) (t:=t) wb hl
  simp only[aq,ak,aH] at hn hl
  match n,hn with
  | n+1,hn =>
   have hra:=dW wa
   have hrb:=dW wb
   have hla:=Bk wa (by omega)
   have hlb:=Bk wb (by omega)
   rw[cA]
   obtain ⟨l1,l2⟩:=kS (A:=flat a++flat b) (t:=t) (by rw[aq];omega)
   rw[l1];simp only[aa]
   rw[Vh e];simp only[aa,if_true]
   rw[l2,p1,p2,kG (by simp only[aq,ak,aH];omega)];simp only[aa]
   rw[kG (by simp only[aq,ak,aH];omega),p3,p4];simp only[aa]
   rw[iha n (by omega) (by omega) (by omega),kG (by simp only[aq,ak,aH];omega)];simp only[aa]
   rw[ihb n (by have:=wa.pos;omega) (by omega) (by omega)];simp only[aa]
   rw[Gk (by omega),exp2 k,rD];rfl
def HK (e:List Tok):List Tok×Bool:=
 if decide (e.length<=24)&&isX e then (if 5000<szX (vu e) then ([],false) else (if 400<(flat (oS (vu e))).length then ([],false) else (flat (oS (vu e)),true))) else ([],false)
theorem EK {e:List Tok} (he:e.length<=1048576):jO e=some (HK e)/\jW e=some (HK e):=by
 have hF:=sP
 unfold jO jW HK
 rw[EG he,EH he];simp only[aa]
 by_cases c:(decide (e.length<=24)&&isX e)=true
 ·rw[if_pos c,if_pos c,if_pos c,Bi he];simp only[aa]
  rw[ai] at c
  obtain ⟨x,h1,hw,rfl⟩:=KY c.2
  have h24:(flat x).length<=24:=by simpa using c.1
  have hr:=dW hw
  rw[tY hw,S8 hw fu (by omega) (by omega),Rs hw fu (by omega)];simp only[aa]
  by_cases c2:5000<szX x
  ·have c2':decide (szX x>5000)=true:=by simpa using c2
   simp only[gt_iff_lt,c2,decide_true,if_true,and_self]
  ·have c2':decide (szX x>5000)=false:=by simpa using c2
   simp only[gt_iff_lt,c2,decide_false,if_false,Bool.false_eq_true]
   have hl:=Bk hw (by omega)
   rw[N3 hw fu (by omega) (by omega) (by omega),N2 hw fu (by omega)];simp only[aa]
   unfold nR
   rw[K7 (Pj hw) fu [] (by omega) (by simp;omega)];simp only[aa,List.nil_append]
   by_cases c3:400<(flat (oS x)).length
   ·have c3':decide (((flat (oS x)).length:Int)>400)=true:=decide_eq_true (by omega)
    simp only[c3',c3,decide_true,if_true,and_self]
   ·have c3':decide (((flat (oS x)).length:Int)>400)=false:=decide_eq_false (by omega)
    simp only[c3',c3,decide_false,if_false,Bool.false_eq_true,and_self]
 ·rw[if_neg c,if_neg c,if_neg c];exact ⟨rfl,rfl⟩
theorem Rt {e:List Tok} (h:(HK e).2=true): ∃y,WT y/\(HK e).1=flat y/\(flat y).length<=400:=by
 unfold HK at h⊢
 split at h
 ·rename_i c
  rw[if_pos c]
  rw[ai] at c
  obtain ⟨x,h1,hw,rfl⟩:=KY c.2
  rw[tY hw] at h⊢
  split at h
  ·cases h
  ·rename_i c2
   rw[if_neg c2]
   split at h
   ·cases h
   ·rename_i c3
    rw[if_neg c3]
    exact ⟨_,Pj hw,rfl,by omega⟩
 ·cases h
end D
namespace D
open Go.RowKit
def K8 (out:List Bool) (t:Int):Bool:=decide (t≥0)&&nth out t
def hit (out:List Bool) (row:List Int):Bool:=row.any (K8 out)
def uV (a:AutT) (out:List Bool) (s:Nat):List Bool:=if hit out (nth a.2.2 s) then out.set s true else out
def iB (a:AutT) (out:List Bool):Nat->List Bool
 | 0=>out
 | s+1=>uV a (iB a out s) s
def cnt (out:List Bool):Nat:=out.count true
theorem S9 (out:List Bool):cnt out<=out.length:=List.count_le_length
theorem Gl {out:List Bool} {s:Nat} (h:s<out.length) (k:out[s] =true):out.set s true=out:=by
 refine List.ext_getElem (by simp) fun i h1 h2=>?_
 rw[List.getElem_set]
 split
 ·rename_i e;subst e;exact k.symm
 ·rfl
theorem Ru {out:List Bool} {s:Nat} (h:s<out.length) (k:out[s] =false):cnt (out.set s true)=cnt out+1:=by
 unfold cnt
 rw[List.count_set h];simp[k]
section
variable {a:AutT} {n:Nat}
theorem Bl (a:AutT) (out:List Bool) (s:Nat):(uV a out s).length=out.length:=by unfold uV;split <;> simp
theorem jl (a:AutT) (out:List Bool): ∀s,(iB a out s).length=out.length
 | 0=>rfl
 | s+1=>by rw[iB,Bl,jl a out s]
theorem uW {out:List Bool} {s:Nat} (h:s<out.length):(uV a out s=out/\ ¬(hit out (nth a.2.2 s)=true/\nth out s=false))\/(cnt (uV a out s)=cnt out+1/\hit out (nth a.2.2 s)=true/\nth out s=false):=by
 unfold uV
 rw[b8 h]
 cases hh:hit out (nth a.2.2 s) with
 | false=>exact .inl ⟨by simp,by simp⟩
 | true =>
  cases hk:out[s] with
  | true=>exact .inl ⟨by simp[Gl h hk],by simp⟩
  | false=>exact .inr ⟨by simp[Ru h hk],rfl,rfl⟩
theorem ua {out:List Bool} : ∀s,s<=out.length->(iB a out s=out/\cnt (iB a out s)=cnt out)\/cnt out<cnt (iB a out s)
 | 0,_=>.inl ⟨rfl,rfl⟩
 | s+1,hs=>by
  have hl:s<(iB a out s).length:=by rw[jl];omega
  have ih:=ua (out:=out) s (by omega)
  rw[iB]
  rcases uW (a:=a) hl with ⟨e,-⟩ | ⟨e,-,-⟩
  ·rw[e];exact ih
  ·rcases ih with ⟨-,h2⟩ | h
   ·exact .inr (by omega)
   ·exact .inr (by omega)
def it (a:AutT):Nat->List Bool
 | 0=>a.2.1
 | j+1=>iB a (it a j) a.2.1.length
theorem nw (a:AutT): ∀j,(it a j).length=a.2.1.length
 | 0=>rfl
 | j+1=>by rw[it,jl,nw a j]
theorem Pm (a:AutT) (j:Nat):cnt (it a j)<=a.2.1.length:=by rw[<-nw a j];exact S9 _
theorem EL (a:AutT) (j:Nat):(it a (j+1)=it a j)\/cnt (it a j)<cnt (it a (j+1)):=by
 rcases ua (a:=a) (out:=it a j) a.2.1.length (by rw[nw];exact az _) with h | h
 ·exact .inl h.1
 ·exact .inr h
theorem Pn {j k:Nat} (h:it a (j+1)=it a j) (hk:j<=k):it a k=it a j:=by
 induction hk with
 | refl=>rfl
 | step _ ih=>rw[it,ih];exact h
theorem K9 {j k:Nat} (h:it a (j+1)=it a j) (h':it a (k+1)=it a k):it a j=it a k:=by
 rcases Nat.le_total j k with e | e
 ·exact (Pn h e).symm
 ·exact Pn h' e
theorem Rv (a : AutT) : it a (a.2.1.length + 1) = it a a.2.1.length := by
  have key : ∀ j, it a (j + 1) = it a j \/ j + 1 <= cnt (it a (j + 1)) := by
    intro j
    induction j with
    | zero => rcases EL a 0 with h | h
              · exact .inl h
              · exact .inr (by omega)
    | succ j ih =>
      rcases EL a (j + 1) with h | h
      · exact .inl h
      · rcases ih with h' | h'
        · left; rw [it, h']; exact h'
        · exact .inr (by omega)
  rcases key a.2.1.length with h | h
  · exact h
  · have := Pm a (a.2.1.length + 1); omega
def live (a:AutT):List Bool:=it a a.2.1.length
theorem rE (a:AutT):(live a).length=a.2.1.length:=nw a _
theorem Gn {α:Type} [Inhabited α] {row:List α} {p:α->Bool} {k:Nat} (h:k<row.length):(row.take (k+1)).any p=((row.take k).any p || p (nth row (k:Int))):=by
 rw[List.take_succ_eq_append_getElem h,List.any_append,b8 h];simp
section
variable (V:VA a n) (hn:n<=1000000)
include V hn
theorem La {out:List Bool} {s:Nat} (hs:s<n) (hl:out.length=n):aB (gI a (out,(s:Int))) bg (out,0)=some (.brk (uV a out s,9)):=by
 have hr:=V.rowAt (s:=s) (by omega) (by omega)
 have hls:s<out.length:=by omega
 have:=bK (f:=gI a (out,(s:Int))) (fun k=>(if ((nth a.2.2 (s:Int)).take k).any (K8 out) then out.set s true else out,(k:Int))) 9 (fun k hk=>by
  unfold gI
  simp only
  rw[if_pos (by simp;omega),V.get (by omega) (by omega)];simp only[aa]
  rw[V.get2 (by omega) (by omega) hk];simp only[aa]
  rw[Gn (by omega),show nth (nth a.2.2 (s:Int)) (k:Int)=mv a s k from rfl]
  simp only[aj (show k<9223372036854775807 by omega)]
  by_cases c:mv a s k≥0
  ·have hset:(out.set s true).length=n:=by simp[hl]
   have hm:=(V.mv (s:=s) (k:=k) (by omega) (by omega) hk).2
   rw[if_pos (by simpa using c)]
   by_cases q:((nth a.2.2 (s:Int)).take k).any (K8 out)=true
   ·simp only[q,if_true,Bool.true_or]
    rw[aK c (by rw[hset];exact hm),aK (by omega) (by rw[hset];omega)];simp only[aa,Int.toNat_natCast]
    split <;> simp
   ·simp only[q,Bool.false_eq_true,if_false,Bool.false_or,K8]
    rw[aK c (by rw[hl];exact hm),aK (by omega) (by rw[hl];omega)];simp only[aa,Int.toNat_natCast]
    cases hc:nth out (mv a s k) <;> simp[hc,c]
  ·rw[if_neg (by simpa using c)]
   simp[K8,c]) (by unfold gI;simp) (by unfold bg;omega)
 have e9:(nth a.2.2 (s:Int)).take 9=nth a.2.2 (s:Int):=List.take_of_length_le (by omega)
 rw[e9] at this
 exact this
theorem Dd {out:List Bool} (hl:out.length=n):aB (gJ a) bg (out,0)=some (.brk (iB a out n,(n:Int))):=by
 have hlen:=V.len
 refine bK (f:=gJ a) (fun s=>(iB a out s,(s:Int))) n (fun s hs=>?_) ?_ (rH (by omega))
 ·unfold gJ
  simp only
  rw[if_pos (by simp;omega),aD (La V hn hs (by rw[jl];exact hl)),aj (by omega)]
  rfl
 ·unfold gJ
  simp only
  rw[if_neg (by simp;omega)]
theorem Po:jz a=some (live a):=by
 have hlen:=V.len
 unfold jz
 rw[aQ (by simp;omega)];simp only[aa,List.nil_append]
 have:=bK (f:=jQ a) (fun j=>(it a j,(j:Int))) n (fun j hj=>by
  unfold jQ
  simp only
  rw[if_pos (by simp;omega),aD (Dd V hn (by rw[nw];exact hlen)),aj (by omega),it,hlen]) (by
  unfold jQ
  simp only
  rw[if_neg (by simp;omega)]) (rH (by omega))
 exact (aD this).trans (by simp[live,hlen])
theorem Lb {out:List Bool} {g:Bool} {s:Nat} (hs:s<n) (hl:out.length=n):aB (cV (g,(s:Int),out) (nth a.2.2 (s:Int))) bg (g,0,out)=some (.brk (g || (hit out (nth a.2.2 (s:Int)) && !nth out (s:Int)),9,uV a out s)):=by
 have hr:=V.rowAt (s:=s) (by omega) (by omega)
 have hls:s<out.length:=by omega
 have:=bK (f:=cV (g,(s:Int),out) (nth a.2.2 (s:Int))) (fun k=>(g || (((nth a.2.2 (s:Int)).take k).any (K8 out) && !nth out (s:Int)),(k:Int),if ((nth a.2.2 (s:Int)).take k).any (K8 out) then out.set s true else out)) 9 (fun k hk=>by
  unfold cV
  simp only
  rw[if_pos (by simp[hr];omega),V.get2 (by omega) (by omega) hk];simp only[aa]
  rw[Gn (by omega),show nth (nth a.2.2 (s:Int)) (k:Int)=mv a s k from rfl]
  simp only[aj (show k<9223372036854775807 by omega)]
  by_cases c:mv a s k≥0
  ·have hset:(out.set s true).length=n:=by simp[hl]
   have hm:=(V.mv (s:=s) (k:=k) (by omega) (by omega) hk).2
   rw[if_pos (by simpa using c)]
   by_cases q:((nth a.2.2 (s:Int)).take k).any (K8 out)=true
   ·simp only[q,if_true,Bool.true_or]
    have hself:nth (out.set s true) (s:Int)=true:=by
     have:=C6 (xs:=out) (i:=(s:Int)) (x:=true) (by omega) (by omega)
     simpa using this
    rw[aK c (by rw[hset];exact hm),aK (by omega) (by rw[hset];omega)];simp only[aa,Int.toNat_natCast,hself,if_true]
    split <;> simp
   ·simp only[q,Bool.false_eq_true,if_false,Bool.false_or,K8,Bool.false_and,Bool.or_false]
    rw[aK c (by rw[hl];exact hm),aK (by omega) (by rw[hl];omega)];simp only[aa,Int.toNat_natCast]
    cases hc:nth out (mv a s k) with
    | false=>simp[c]
    | true =>
     cases hd:nth out (s:Int) with
     | false=>simp[c]
     | true =>
      rw[b8 hls] at hd
      simp[c,Gl hls hd]
  ·rw[if_neg (by simpa using c)]
   simp[K8,c]) (by unfold cV;simp[hr]) (by unfold bg;omega)
 have e9:(nth a.2.2 (s:Int)).take 9=nth a.2.2 (s:Int):=List.take_of_length_le (by omega)
 rw[e9] at this
 have e0:(g || (((nth a.2.2 (s:Int)).take 0).any (K8 out) && !nth out (s:Int)))=g:=by simp
 rw[e0] at this
 exact this
theorem De {out:List Bool} (hl:out.length=n): ∃g,aB (cW a) bg (false,0,out)=some (.brk (g,(n:Int),iB a out n))/\(g=true↔cnt out<cnt (iB a out n)):=by
 have hlen:=V.len
 have hnl:=V.nlen
 obtain ⟨s',e,⟨g,rfl,hg⟩⟩:=lI (f:=cW a) (fun s st=> ∃g,st=(g,(s:Int),iB a out s)/\(g=true↔cnt out<cnt (iB a out s))) n (by
  rintro s st hs ⟨g,rfl,hg⟩
  have hpl:(iB a out s).length=n:=by rw[jl];exact hl
  unfold cW
  simp only
  rw[if_pos (by simp;omega),V.get (by omega) (by omega)];simp only[aa]
  rw[aD (Lb V hn hs hpl),aj (by omega)]
  refine ⟨_,rfl,_,rfl,?_⟩
  rw[Bool.or_eq_true,ai,Bool.not_eq_true',hg,iB]
  have hc:=ua (a:=a) (out:=out) s (by omega)
  rcases uW (a:=a) (out:=iB a out s) (s:=s) (by omega) with ⟨e,k⟩ | ⟨e,k⟩
  ·rw[e];exact ⟨fun h=>h.elim id fun h=>absurd h k,.inl⟩
  ·rw[e]
   exact ⟨fun _=>by rcases hc with ⟨-,h⟩ | h <;> omega,fun _=>.inr k⟩) (by
  rintro s ⟨g,rfl,hg⟩
  unfold cW
  simp only
  rw[if_neg (by simp;omega)]) ⟨false,rfl,by simp[iB]⟩ (rH (by omega))
 exact ⟨g,e,hg⟩
theorem Ta:dO a=some (live a):=by
 have hlen:=V.len
 unfold dO
 rw[aQ (by simp;omega)];simp only[aa,List.nil_append]
 obtain ⟨o,e,i,rfl,hi⟩:=cO (f:=fZ a) (fun i s=> ∃b,s=(b,it a i)/\(b=true->i<=cnt (it a i))/\(b=false->it a (i+1)=it a i)) (fun o=> ∃i,o= .brk (false,it a i)/\it a (i+1)=it a i) (n+1) (s:=(true,a.2.1)) (by
  rintro i s hi ⟨b,rfl,h1,h2⟩
  unfold fZ
  simp only
  cases b with
  | false=>exact .inr ⟨_,by rw[if_neg (by simp)],(fun s' e=>by cases e),i,rfl,h2 rfl⟩
  | true =>
   have hc:=Pm a i
   have h1:=h1 rfl
   obtain ⟨g,e,hg⟩:=De V hn (out:=it a i) (by rw[nw];exact hlen)
   have ee:iB a (it a i) n=it a (i+1):=by rw[it,hlen]
   rw[ee] at e hg
   refine .inl ⟨by omega,(g,it a (i+1)),by rw[if_pos rfl,aD e],g,rfl,fun h=>?_,fun h=>?_⟩
   ·have:=hg.1 h;omega
   ·have hs:it a (i+1)=it a i:=by
     rcases EL a i with h' | h'
     ·exact h'
     ·rw[<-hg,h] at h';cases h'
    rw[it,hs];exact hs) ⟨true,rfl,fun _=>Nat.zero_le _,fun h=>by cases h⟩ (rH (by omega))
 rw[aD e]
 have:=K9 hi (Rv a)
 simp[live,this]
end
end
end D
end Go.Proofs.YtilionjghdjbdaaGreatDoor
