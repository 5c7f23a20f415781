/- FnExactLostRecords: for every input the law returns true and changes nothing that was there. Part 7 of 8. -/
import Derived.Test.YtilionjghdjbdaaGreatDoorEC5
set_option linter.unusedVariables false
set_option linter.unusedSimpArgs false
set_option linter.unnecessarySimpa false
set_option linter.unusedSectionVars false
set_option maxRecDepth 1000000
namespace Go.Proofs.YtilionjghdjbdaaGreatDoor
namespace R
open Go.RowKit
open D
theorem tu:FOk Tryz.prog 104 mE:=fk [(160,nW)] ⟨uS,trivial⟩ Tryz.func104 (.two .no (.two .no (.two (.two .no (.loop [.row 3 137 C5,.slot 4 (.num .i64)] .no)) .no)))
theorem yj:FOk Tryz.prog 48 qn:=fk [(103,nV),(104,mE)] ⟨uR,tu,trivial⟩ Tryz.func48 .no
theorem uT:FOk Tryz.prog 105 nX:=fk [] trivial Tryz.func105 .no
theorem tv:FOk Tryz.prog 49 mF:=fk [(105,nX)] ⟨uT,trivial⟩ Tryz.func49 (.two .no (.two .no (.two (.two .no (.loop [.row 3 88 y88,.slot 4 (.num .i64)] .no)) .no)))
theorem CD:FOk Tryz.prog 13 um:=fk [(47,rZ),(48,qn),(49,mF)] ⟨AF,yj,tv,trivial⟩ Tryz.func13 .no
theorem gf:FOk Tryz.prog 53 fh:=fk [] trivial Tryz.func53 .no
theorem zw:FOk Tryz.prog 161 tk:=fk [(53,fh)] ⟨gf,trivial⟩ Tryz.func161 .no
theorem uU:FOk Tryz.prog 106 nY:=fk [(53,fh),(161,tk)] ⟨gf,zw,trivial⟩ Tryz.func106 (.two .no (.two .no (.two (.two .no (.loop [.slot 14 (.num .i64)] .no)) (.two (.two .no (.loop [.slot 25 (.num .i64)] .no)) .no))))
theorem dk:FOk Tryz.prog 107 cn:=fk [] trivial Tryz.func107 (.two .no (.two .no (.two (.two .no (.loop [.slot 13 (.num .i64)] .no)) .no)))
theorem lX:FOk Tryz.prog 50 iS:=fk [(53,fh),(106,nY),(107,cn)] ⟨gf,uU,dk,trivial⟩ Tryz.func50 (.two .no (.two .no (.two .no (.two (.two .no (.loop [.slot 24 (.num .i64)] .no)) .no))))
theorem uC:FOk Tryz.prog 326 o8:=fk [(53,fh)] ⟨gf,trivial⟩ Tryz.func326 .no
theorem Eb:FOk Tryz.prog 293 wS:=fk [(53,fh),(326,o8)] ⟨gf,uC,trivial⟩ Tryz.func293 (.two .no (.two (.two .no (.two .no (.two .no (.two .no (.two .no (.join [.slot 37 .boo] .no .no)))))) .no))
theorem kd:FOk Tryz.prog 294 bc:=Cq (f:=bc) (iy (f:=⟨bc.ps,bc.rs,bc.m,none⟩) (enters_of Tryz.func294 (by kernel_rfl) rfl) rfl (fun d=>rfl)) (FF (V:=⟨tt,[],[(5,.raw)],8,[]⟩) Q1 trivial mixed Tryz.func294 rfl rfl (enters_of Tryz.func294 (by kernel_rfl) rfl) (aT rfl) .no (fun E bn xs=>by cases bn <;> kernel_rfl))
theorem tw:FOk Tryz.prog 258 pX:=fk [(293,wS),(294,bc)] ⟨Eb,kd,trivial⟩ Tryz.func258 (.two .no (.two .no (.two (.two .no (.loop [.slot 3 (.own 274 Ud),.slot 13 (.num .i64)] (.two .no (.two .no (.two (.two .no (.two .no (.two (.two .no (.at [.slot 6 (.num .i64)] (.two (.two .no (.at [.slot 19 .boo] .no)) (.two .no (.two (.two .no (.at [.slot 22 .boo] .no)) .no))))) .no))) .no))))) .no))) (tr:=[(302,274,uL)])
theorem He:FOk Tryz.prog 323 zm:=fk [(258,pX)] ⟨tw,trivial⟩ Tryz.func323 .no (tr:=[(302,274,uL)])
theorem xg:FOk Tryz.prog 288 o9:=fk [(323,zm)] ⟨He,trivial⟩ Tryz.func288 .no
theorem qw: ∀n,FOk Tryz.prog 289 (jN n)
 | 0=>iy (f:=jN 0) (enters_of Tryz.func289 (by kernel_rfl) rfl) rfl (fun d=>rfl)
 | n+1=>by
  have ih:=qw n
  exact fk [(289,(jN n))] ⟨ih,trivial⟩ Tryz.func289 (.two .no (.two .no (.two (.two .no (.loop [.slot 3 (.num .i64),.slot 11 (.num .i64)] (.two .no (.two .no (.two (.at [.slot 3 (.num .i64)] .no) .no))))) .no))) (tr:=[(302,274,uL)])
end R
namespace R
open Go.RowKit
open D
theorem Nl:FOk Tryz.prog 344 FM:=fk [] trivial Tryz.func344 .no (tr:=[(302,274,uL)])
theorem uD: ∀n,FOk Tryz.prog 324 (lS n)
 | 0=>iy (f:=lS 0) (enters_of Tryz.func324 (by kernel_rfl) rfl) rfl (fun d=>rfl)
 | n+1=>by
  have ih:=uD n
  exact fk [(324,(lS n)),(344,FM)] ⟨ih,Nl,trivial⟩ Tryz.func324 .no (tr:=[(302,274,uL)])
theorem pn: ∀n,FOk Tryz.prog 290 (iT n)
 | 0=>iy (f:=iT 0) (enters_of Tryz.func290 (by kernel_rfl) rfl) rfl (fun d=>rfl)
 | n+1=>by
  have ih:=pn n
  exact fk [(290,(iT n)),(324,(lS e7))] ⟨ih,(uD e7),trivial⟩ Tryz.func290 (.two .no (.two .no (.two .no (.two (.two .no (.loop [.slot 41 (.num .i64),.box 3 [(.num .i64),(.num .i64),(.num .i64),(.num .i64),(.own 274 (.tree 302 274 uL))]] .no)) .no)))) (an:=[(52,t274)]) (tr:=[(302,274,uL)])
theorem oj: ∀n,FOk Tryz.prog 325 (gI n)
 | 0=>iy (f:=gI 0) (enters_of Tryz.func325 (by kernel_rfl) rfl) rfl (fun d=>rfl)
 | n+1=>by
  have ih:=oj n
  exact fk [(325,(gI n))] ⟨ih,trivial⟩ Tryz.func325 (.two (.two .no (.loop [.slot 11 (.num .i64),.box 1 [(.own 161 uL)]] .no)) .no) (tr:=[(302,274,uL)])
theorem AG:FOk Tryz.prog 291 sa:=fk [(325,(gI e7))] ⟨(oj e7),trivial⟩ Tryz.func291 .no (tr:=[(302,274,uL)])
theorem yk:FOk Tryz.prog 256 qo:=fk [(258,pX),(288,o9),(289,(jN e7)),(290,(iT e7)),(291,sa)] ⟨tw,xg,(qw e7),(pn e7),AG,trivial⟩ Tryz.func256 .no (tr:=[(302,274,uL)])
theorem qb:FOk Tryz.prog 292 kh:=fk [] trivial Tryz.func292 (.two .no (.loop [.slot 12 (.num .i64),.par 3 [3] 3 y3] (.two .no (.two .no (.two (.at [.par 3 [3] 3 y3] .no) .no)))))
theorem lh: ∀n,FOk Tryz.prog 257 (eY n)
 | 0=>iy (f:=eY 0) (enters_of Tryz.func257 (by kernel_rfl) rfl) rfl (fun d=>rfl)
 | n+1=>by
  have ih:=lh n
  exact fk [(257,(eY n)),(292,kh)] ⟨ih,qb,trivial⟩ Tryz.func257 (.two .no (.two (.two .no (.two .no (.two .no (.two .no (.two .no (.two .no (.two .no (.two .no (.two (.two .no (.two .no (.two .no (.two (.two .no (.at [.box 10 [(.num .i64),(.num .i64),.boo]] .no)) (.two (.two .no (.at [.box 10 [(.num .i64),(.num .i64),.boo]] .no)) .no))))) .no))))))))) .no)) (tr:=[(302,274,uL)])
theorem si:FOk Tryz.prog 217 lT:=fk [(256,qo),(257,(eY e7)),(258,pX)] ⟨yk,(lh e7),tw,trivial⟩ Tryz.func217 (.two .no (.two .no (.two .no (.two .no (.two (.two .no (.loop [.slot 6 (.num .i64),.slot 22 (.num .i64)] (.two .no (.two .no (.two (.at [.slot 6 (.num .i64)] .no) .no))))) .no))))) (tr:=[(302,274,uL)])
theorem om:FOk Tryz.prog 259 kc:=fk [] trivial Tryz.func259 (.two .no (.two .no (.two .no (.two .no (.two (.two .no (.loop [.slot 10 (.own 3 y3),.slot 11 (.map ⟨3,3,.int,.int⟩),.slot 13 (.num .i64),.box 12 [(.num .i64),(.own 4 y4),(.own 91 y91)]] (.two .no (.two (.two .no (.two (.two .no (.loop [.slot 10 (.own 3 y3),.slot 11 (.map ⟨3,3,.int,.int⟩),.slot 14 (.own 3 y3),.slot 15 (.num .i64)] (.two .no (.join [.slot 10 (.own 3 y3),.slot 11 (.map ⟨3,3,.int,.int⟩),.slot 14 (.own 3 y3)] (.two .no (.two .no (.two .no (.join [.slot 10 (.own 3 y3),.slot 11 (.map ⟨3,3,.int,.int⟩),.slot 18 (.num .i64)] .no .no)))) .no)))) .no)) .no)))) .no)))))
theorem po:FOk Tryz.prog 260 jW:=fk [] trivial Tryz.func260 .no
theorem q9:FOk Tryz.prog 262 kY:=fk [] trivial Tryz.func262 (.two .no (.two .no (.join [.slot 7 (.num .i64)] .no (.two (.two .no (.loop [.slot 7 (.num .i64),.slot 21 (.num .i64)] (.two .no (.two .no (.join [.slot 7 (.num .i64)] .no .no))))) (.two .no (.two (.two .no (.loop [.slot 10 (.num .i64),.slot 39 (.num .i64)] (.two .no (.two .no (.join [.slot 10 (.num .i64)] .no .no))))) .no))))))
theorem tx:FOk Tryz.prog 261 mG:=fk [(262,kY)] ⟨q9,trivial⟩ Tryz.func261 .no
theorem xh:FOk Tryz.prog 218 pa:=fk [(259,kc),(260,jW),(261,mG)] ⟨om,po,tx,trivial⟩ Tryz.func218 .no
theorem kB:FOk Tryz.prog 345 bg:=Cq (f:=bg) (iy (f:=⟨bg.ps,bg.rs,bg.m,none⟩) (enters_of Tryz.func345 (by kernel_rfl) rfl) rfl (fun d=>rfl)) (FF (V:=⟨tt,[],[(5,.raw)],8,[]⟩) Q1 trivial mixed Tryz.func345 rfl rfl (enters_of Tryz.func345 (by kernel_rfl) rfl) (aT rfl) .no (fun E bn xs=>by cases bn <;> kernel_rfl))
theorem sj:FOk Tryz.prog 327 lU:=fk [(345,bg)] ⟨kB,trivial⟩ Tryz.func327 (.two .no (.two .no (.two (.two .no (.loop [.slot 4 .boo,.row 3 4 y4] (.two .no (.two .no (.two .no (.loop [.slot 4 .boo,.slot 16 (.num .i64),.row 3 4 y4] (.two .no (.two .no (.two (.two .no (.two .no (.loop [.slot 4 .boo,.slot 23 (.num .i64),.row 3 4 y4] (.two .no (.two .no (.two (.at [.slot 4 .boo,.row 3 4 y4] .no) .no)))))) .no))))))))) .no)))
theorem ic:FOk Tryz.prog 346 di:=fk [] trivial Tryz.func346 (.two .no (.two (.two .no (.loop [.slot 8 (.num .i64)] .no)) .no))
end R
namespace R
open Go.RowKit
open D
theorem oy:FOk Tryz.prog 347 ja:=fk [(107,cn)] ⟨dk,trivial⟩ Tryz.func347 .no
theorem qc:FOk Tryz.prog 328 kj:=fk [(346,di),(347,ja)] ⟨ic,oy,trivial⟩ Tryz.func328 (.two .no (.two .no (.two .no (.two (.two .no (.loop [.slot 6 (.own 91 y91),.slot 7 (.own 3 y3),.slot 18 (.num .i64)] (.two .no (.two .no (.join [.slot 6 (.own 91 y91),.slot 7 (.own 3 y3)] (.two .no (.two .no (.two .no (.two (.two .no (.loop [.slot 36 (.num .i64),.box 10 [(.own 3 y3)]] (.two .no (.two .no (.two (.two .no (.join [.slot 12 (.num .i64)] .no .no)) .no))))) (.two .no (.join [.slot 6 (.own 91 y91),.slot 13 (.num .i64),.gone 10] .no .no)))))) .no))))) .no))))
theorem pq:FOk Tryz.prog 295 jX:=fk [(327,lU),(328,kj)] ⟨sj,qc,trivial⟩ Tryz.func295 (.two .no (.two .no (.two (.two .no (.loop [.slot 3 (.own 3 y3),.slot 13 (.num .i64)] (.two .no (.two .no (.join [.slot 3 (.own 3 y3)] .no .no))))) (.two .no (.loop [.slot 3 (.own 3 y3),.slot 6 (.num .i64)] .no)))))
theorem ra:FOk Tryz.prog 354 kZ:=fk [] trivial Tryz.func354 .no
theorem rb:FOk Tryz.prog 355 k7:=fk [] trivial Tryz.func355 .no
theorem tz:FOk Tryz.prog 348 mH:=fk [(354,kZ),(355,k7)] ⟨ra,rb,trivial⟩ Tryz.func348 .no
theorem lj:FOk Tryz.prog 329 fN:=fk [(348,mH)] ⟨tz,trivial⟩ Tryz.func329 (.two .no (.two .no (.two .no (.two .no (.two .no (.two .no (.two (.loop [.slot 8 (.num .i64),.row 7 3 (.int .i64)] .no) .no))))))) (an:=[(44,.bool)])
theorem Ec:FOk Tryz.prog 296 wT:=fk [(329,fN)] ⟨lj,trivial⟩ Tryz.func296 .no
theorem lA:FOk Tryz.prog 298 gh:=fk [] trivial Tryz.func298 (.two .no (.two (.two .no (.loop [.slot 8 (.num .i64)] .no)) .no))
theorem mO:FOk Tryz.prog 297 gX:=fk [(298,gh)] ⟨lA,trivial⟩ Tryz.func297 .no
theorem mP:FOk Tryz.prog 299 gY:=fk [] trivial Tryz.func299 .no
theorem sk:FOk Tryz.prog 301 lV:=fk [(326,o8)] ⟨uC,trivial⟩ Tryz.func301 .no
theorem mQ:FOk Tryz.prog 300 gZ:=fk [(301,lV)] ⟨sk,trivial⟩ Tryz.func300 .no
theorem oz:FOk Tryz.prog 263 jb:=fk [(259,kc),(295,jX),(296,wT),(297,gX),(299,gY),(300,gZ)] ⟨om,pq,Ec,mO,mP,mQ,trivial⟩ Tryz.func263 .no
theorem JY:FOk Tryz.prog 219 Ct:=fk [(263,jb)] ⟨oz,trivial⟩ Tryz.func219 .no
theorem xi:FOk Tryz.prog 162 pb:=fk [(217,lT),(218,pa),(219,Ct)] ⟨si,xh,JY,trivial⟩ Tryz.func162 .no
theorem ff:FOk Tryz.prog 163 cm:=fk [] trivial Tryz.func163 (.two .no (.two (.two .no (.loop [.slot 8 (.num .i64)] .no)) .no))
end R
namespace R
open Go.RowKit
open D
theorem kC:FOk Tryz.prog 220 fq:=fk [] trivial Tryz.func220 (.two .no (.two .no (.two (.two .no (.loop [.slot 13 (.num .i64)] .no)) .no)))
theorem dD:FOk Tryz.prog 221 bJ:=fk [] trivial Tryz.func221 (.two .no (.two .no (.two (.two .no (.loop [.slot 17 (.num .i64)] .no)) .no)))
theorem re:FOk Tryz.prog 222 k8:=fk [(107,cn)] ⟨dk,trivial⟩ Tryz.func222 .no
theorem mR:FOk Tryz.prog 165 jo:=fk [(220,fq),(221,bJ),(222,k8)] ⟨kC,dD,re,trivial⟩ Tryz.func165 .no
theorem CE:FOk Tryz.prog 164 uo:=fk [(165,jo)] ⟨mR,trivial⟩ Tryz.func164 .no
theorem CF:FOk Tryz.prog 166 uq:=fk [] trivial Tryz.func166 .no
theorem Hf:FOk Tryz.prog 108 zn:=fk [(53,fh),(162,pb),(163,cm),(164,uo),(166,uq)] ⟨gf,xi,ff,CE,CF,trivial⟩ Tryz.func108 (.two .no (.two .no (.two (.two .no (.loop [.slot 13 (.num .i64),.box 4 [(.own 189 lO),(.own 137 C5)]] (.two .no (.two .no (.two (.two .no (.two .no (.two .no (.two .no (.join [.slot 9 (.num .i64),.box 4 [(.own 189 lO),(.own 137 C5)],.gone 7] .no .no))))) .no))))) .no)))
theorem b7:FOk Tryz.prog 167 a8:=fk [] trivial Tryz.func167 (.two .no (.two .no (.two (.two .no (.loop [.slot 17 (.num .i64)] .no)) .no)))
theorem bP:FOk Tryz.prog 168 aX:=fk [] trivial Tryz.func168 (.two .no (.two .no (.two (.two .no (.loop [.slot 17 (.num .i64)] .no)) .no)))
theorem jZ:FOk Tryz.prog 264 eJ:=fk [] trivial Tryz.func264 (.two .no (.two .no (.two (.two .no (.loop [.slot 13 (.num .i64)] .no)) .no)))
theorem ym:FOk Tryz.prog 223 qp:=fk [(264,eJ)] ⟨jZ,trivial⟩ Tryz.func223 .no
theorem uV:FOk Tryz.prog 169 nZ:=fk [(223,qp)] ⟨ym,trivial⟩ Tryz.func169 .no
theorem rf:FOk Tryz.prog 109 k9:=fk [(165,jo),(167,a8),(168,aX),(169,nZ)] ⟨mR,b7,bP,uV,trivial⟩ Tryz.func109 .no
theorem rh:FOk Tryz.prog 51 ld:=fk [(108,zn),(109,k9)] ⟨Hf,rf,trivial⟩ Tryz.func51 .no
theorem tC:FOk Tryz.prog 52 mI:=fk [(50,iS)] ⟨lX,trivial⟩ Tryz.func52 .no
theorem eF:FOk Tryz.prog 110 bZ:=fk [] trivial Tryz.func110 (.two .no (.two (.two .no (.loop [.slot 8 (.num .i64)] .no)) .no))
theorem xj:FOk Tryz.prog 111 pc:=fk [] trivial Tryz.func111 .no
end R
namespace R
open Go.RowKit
open D
theorem AH:FOk Tryz.prog 54 sb:=fk [(110,bZ),(111,pc)] ⟨eF,xj,trivial⟩ Tryz.func54 .no
theorem pv:FOk Tryz.prog 112 jY:=Ax Az (enters_of Tryz.func112 (by kernel_rfl) rfl)
theorem uW:FOk Tryz.prog 195 n7:=Nh FI (enters_of Tryz.func195 (by kernel_rfl) rfl)
theorem sn:FOk Tryz.prog 131 nH:=fk [(195,n7)] ⟨uW,trivial⟩ Tryz.func131 .no
theorem qx:FOk Tryz.prog 193 mc:=fk [(131,nH),(161,tk)] ⟨sn,zw,trivial⟩ Tryz.func193 .no
theorem uX:FOk Tryz.prog 194 n8:=Ni Nj JW 9 (enters_of Tryz.func194 (by kernel_rfl) rfl)
theorem pw:FOk Tryz.prog 130 lf:=fk [(193,mc),(194,n8)] ⟨qx,uX,trivial⟩ Tryz.func130 (.two .no (.two .no (.two .no (.two (.two .no (.loop [.slot 3 (.own 9 y9),.slot 15 (.num .i64)] (.two .no (.two .no (.two (.atX [.slot 3 (.own 9 y9)] .no) .no))))) .no))))
theorem CG:FOk Tryz.prog 132 ur:=fk [] trivial Tryz.func132 (.two .no (.two .no (.two (.two .no (.loop [.slot 3 (.num .i64),.slot 4 (.num .i64)] .no)) .no)))
theorem uY:FOk Tryz.prog 73 n9:=fk [(53,fh),(130,lf),(131,nH),(132,ur)] ⟨gf,pw,sn,CG,trivial⟩ Tryz.func73 .no
theorem mS:FOk Tryz.prog 171 jq:=JT JV (by kernel_rfl) (by kernel_rfl) (enters_of Tryz.func171 (by kernel_rfl) rfl)
theorem xk (n a b:Int) (w:World):Calls Tryz.prog 53 #[.int .i64 n,.int .i64 a,.int .i64 b] w fun e w'=>e= .returned (.bool (decide (a<=n/\n<=b)))/\w'=w:=by
 by_cases h:a<=n
 ·go_enter Tryz.func53,Tryz.ntmps53
  go_wp2
  go_ret
  simp[h]
 ·go_enter Tryz.func53,Tryz.ntmps53
  go_wp2
  go_ret
  simp
  try (intro k;omega)
theorem Ed (s:ByteArray) (r:Int×Bool) (w:World) (hr:oQ s=some r) (hL:LayW Tryz.prog w):Calls Tryz.prog 172 #[.string s] w fun e w'=>e= .returned (.tuple #[.int .i64 r.1,.bool r.2])/\Below w.heap.size w w':=by
 unfold oQ at hr
 by_cases h10:10<s.size
 ·rw[if_pos h10] at hr
  obtain rfl:=aliasOf1 hr
  go_enter Tryz.func172,Tryz.ntmps172
  go_wp2
  go_ret2
  exact ⟨rfl,Below.refl _ _⟩
 ·rw[if_neg h10] at hr
  have h18:s.size<=18:=by omega
  cases ha:Lib.atoi s.data.toList with
  | none =>
   rw[ha] at hr
   obtain rfl:=aliasOf1 hr
   obtain ⟨tp,p,hv⟩:=hL.syn
   have hcon:=Any.strconv_Atoi_err_var FJ s h18 ha tp p w hv
   go_enter Tryz.func172,Tryz.ntmps172
   go_wp2_with (go_at_call 226;refine hcon.mono ?_;rintro e w' ⟨N,rfl,hN,hh,hb⟩)
   go_ret2
   exact ⟨rfl,hb⟩
  | some n =>
   rw[ha] at hr
   have hB:=Lib.atoi_bound ha (by simpa using h18)
   have hA:=Any.strconv_Atoi { FJ with } s n h18 ha w
   have hI:=fun t=>Any.strconv_Itoa FI n (by omega) (by omega) (Lib.bytesWorld w 5 t) (Lib.bytesWorld_var w 5 t hL.tab)
   have hz: ∀t k os,Below w.heap.size w (Go.Sort.grow ((Lib.bytesWorld w 5 t).drewN k) os):=fun t k os=>by
    have h1:=Lib.bytesWorld_below w 5 t
    exact ⟨h1.os,h1.tape,h1.output,by have:=h1.size;simp only[Go.Sort.grow,Array.size_append];exact Nat.le_trans this (Nat.le_add_right _ _),fun b hb=>(Go.Sort.heap_grow_old ((Lib.bytesWorld w 5 t).drewN k) os (ay hb h1.size:b<((Lib.bytesWorld w 5 t).drewN k).heap.size)).trans (h1.block b hb)⟩
   replace hr:(if (⟨(Lib.itoa n).toArray⟩:ByteArray)=s/\ -999999999<=n/\n<=999999999 then some (n,true) else some (0,false))=some r:=hr
   generalize (⟨(Lib.itoa n).toArray⟩:ByteArray)=q at hr hI
   by_cases e1:q=s
   ·subst e1
    by_cases e2: -999999999<=n/\n<=999999999
    ·rw[if_pos ⟨rfl,e2.1,e2.2⟩] at hr
     obtain rfl:=aliasOf1 hr
     go_enter Tryz.func172,Tryz.ntmps172
     go_wp2_with (first | (go_at_call 226;refine hA.mono ?_;rintro e w' ⟨rfl,t,rfl⟩) | (go_at_call 195;refine (hI _).mono ?_;rintro e w' ⟨rfl,k,os,rfl⟩) | (go_at_call 53;refine (xk _ _ _ _).mono ?_;rintro e w' ⟨rfl,rfl⟩))
     go_ret2
     exact ⟨rfl,hz _ _ _⟩
    ·rw[if_neg fun k=>e2 k.2] at hr
     obtain rfl:=aliasOf1 hr
     go_enter Tryz.func172,Tryz.ntmps172
     go_wp2_with (first | (go_at_call 226;refine hA.mono ?_;rintro e w' ⟨rfl,t,rfl⟩) | (go_at_call 195;refine (hI _).mono ?_;rintro e w' ⟨rfl,k,os,rfl⟩) | (go_at_call 53;refine (xk _ _ _ _).mono ?_;rintro e w' ⟨rfl,rfl⟩))
     go_ret2
     exact ⟨rfl,hz _ _ _⟩
   ·rw[if_neg fun k=>e1 k.1] at hr
    obtain rfl:=aliasOf1 hr
    have e2: ¬q.toList=s.toList:=fun k=>e1 (Go.WideShapes.bytes_inj (by rw[<-ByteArray.toList_eq,<-ByteArray.toList_eq];exact k))
    go_enter Tryz.func172,Tryz.ntmps172
    go_wp2_with (first | (go_at_call 226;refine hA.mono ?_;rintro e w' ⟨rfl,t,rfl⟩) | (go_at_call 195;refine (hI _).mono ?_;rintro e w' ⟨rfl,k,os,rfl⟩) | (go_at_call 53;refine (xk _ _ _ _).mono ?_;rintro e w' ⟨rfl,rfl⟩))
    go_ret2
    exact ⟨rfl,hz _ _ _⟩
theorem uE:FOk Tryz.prog 172 pd:=JU (enters_of Tryz.func172 (by kernel_rfl) rfl) Ed
theorem xl:FOk Tryz.prog 270 pe:=QY Q0 (by kernel_rfl) (enters_of Tryz.func270 (by kernel_rfl) rfl)
theorem AI:FOk Tryz.prog 227 sd:=fk [(172,pd),(193,mc),(270,pe)] ⟨uE,qx,xl,trivial⟩ Tryz.func227 .no
theorem yn:FOk Tryz.prog 173 qq:=fk [(130,lf),(171,jq),(227,sd)] ⟨pw,mS,AI,trivial⟩ Tryz.func173 (.two .no (.two .no (.two .no (.two (.two .no (.loop [.slot 16 (.num .i64),.box 4 [(.own 170 (.prod y4 DY))]] .no)) .no))))
theorem uZ:FOk Tryz.prog 113 oc:=fk [(73,n9),(171,jq),(172,pd),(173,qq)] ⟨uY,mS,uE,yn,trivial⟩ Tryz.func113 .no
theorem xm:FOk Tryz.prog 55 qY:=FH (ps:=[.rd y9]) (A:=y91) (E:=73) (t:=y73) (B:=y3) (m:=m_i_ScanLog) (fk [(112,jY),(113,oc)] ⟨pv,uZ,trivial⟩ Tryz.func55 (.two .no (.two .no (.two .no (.two .no (.two (.loop [.slot 5 (.own 3 y3),.slot 6 (.own 73 y73),.slot 7 (.num .i64)] .no) .no))))))
theorem tD:FOk Tryz.prog 14 mJ:=fk [(50,iS),(51,ld),(52,mI),(53,fh),(54,sb),(55,qY)] ⟨lX,rh,tC,gf,AH,xm,trivial⟩ Tryz.func14 (.two .no (.two .no (.two .no (.two (.two .no (.loop [.slot 37 (.num .i64)] .no)) .no))))
end R
namespace R
open Go.RowKit
open D
theorem zx:FOk Tryz.prog 228 tl:=fk [] trivial Tryz.func228 (.two .no (.two .no (.two (.two .no (.loop [.slot 5 (.num .i64)] .no)) .no)))
theorem Hg:FOk Tryz.prog 205 zo:=fk [] trivial Tryz.func205 .no
theorem Ee:FOk Tryz.prog 229 wU:=fk [(205,zo)] ⟨Hg,trivial⟩ Tryz.func229 (.two .no (.two .no (.two (.two .no (.loop [.slot 5 (.num .i64)] .no)) .no)))
theorem Ef:FOk Tryz.prog 174 wV:=fk [(228,tl),(229,wU)] ⟨zx,Ee,trivial⟩ Tryz.func174 .no
theorem CH:FOk Tryz.prog 114 uu:=fk [(174,wV)] ⟨Ef,trivial⟩ Tryz.func114 (.two .no (.two .no (.two (.two .no (.loop [.slot 5 (.num .i64)] .no)) .no)))
theorem AJ:FOk Tryz.prog 56 se:=fk [(114,uu)] ⟨CH,trivial⟩ Tryz.func56 .no
theorem Eg:FOk Tryz.prog 230 wW:=fk [] trivial Tryz.func230 (.two .no (.two .no (.two (.two .no (.loop [.slot 5 (.num .i64)] .no)) .no)))
theorem Eh:FOk Tryz.prog 231 wX:=fk [(228,tl)] ⟨zx,trivial⟩ Tryz.func231 (.two .no (.two .no (.two (.two .no (.loop [.slot 5 (.num .i64)] .no)) .no)))
theorem xn:FOk Tryz.prog 175 pf:=fk [(230,wW),(231,wX)] ⟨Eg,Eh,trivial⟩ Tryz.func175 .no
theorem u7:FOk Tryz.prog 115 od:=fk [(175,pf)] ⟨xn,trivial⟩ Tryz.func115 (.two .no (.two .no (.two (.two .no (.loop [.slot 5 (.num .i64)] .no)) .no)))
theorem Ei:FOk Tryz.prog 141 wY:=fk [] trivial Tryz.func141 .no
theorem CI:FOk Tryz.prog 86 uv:=fk [(141,wY)] ⟨Ei,trivial⟩ Tryz.func86 (.two .no (.two .no (.two (.two .no (.loop [.slot 5 (.num .i64)] .no)) .no)))
theorem Hh:FOk Tryz.prog 32 zp:=fk [(86,uv)] ⟨CI,trivial⟩ Tryz.func32 .no
theorem u9:FOk Tryz.prog 176 oe:=fk [(32,zp)] ⟨Hh,trivial⟩ Tryz.func176 .no
theorem tE:FOk Tryz.prog 116 mK:=fk [(176,oe)] ⟨u9,trivial⟩ Tryz.func116 (.two .no (.two .no (.two (.two .no (.loop [.slot 5 (.num .i64)] .no)) .no)))
theorem yo:FOk Tryz.prog 57 qu:=fk [(115,od),(116,mK)] ⟨u7,tE,trivial⟩ Tryz.func57 .no
theorem vc:FOk Tryz.prog 117 oh:=fk [] trivial Tryz.func117 .no
end R
namespace R
open Go.RowKit
open D
theorem tF:FOk Tryz.prog 58 mL:=fk [(117,oh)] ⟨vc,trivial⟩ Tryz.func58 (.two .no (.two .no (.two (.two .no (.loop [.slot 5 (.num .i64)] .no)) .no)))
theorem CJ:FOk Tryz.prog 15 uw:=fk [(56,se),(57,qu),(58,mL)] ⟨AJ,yo,tF,trivial⟩ Tryz.func15 .no
theorem xo:FOk Tryz.prog 16 pg:=fk [(12,mD),(59,iQ),(60,qX)] ⟨tq,jO,xe,trivial⟩ Tryz.func16 .no
theorem xp:FOk Tryz.prog 17 ph:=fk [(14,mJ),(53,fh),(55,qY)] ⟨tD,gf,xm,trivial⟩ Tryz.func17 .no
theorem oA:FOk Tryz.prog 4 ox:=fk [(11,ue),(13,um),(15,uw),(16,pg),(17,ph)] ⟨Cw,CD,CJ,xo,xp,trivial⟩ Tryz.func4 .no
end R
namespace R
open Go.RowKit
open D
end R
namespace R
open Go.RowKit
open D
end R
namespace R
open Go.RowKit
open D
end R
namespace R
open Go.RowKit
open D
end R
namespace R
open Go.RowKit
open D
end R
namespace R
open Go.RowKit
open D
end R
namespace D
open Go.RowKit
end D
namespace D
open Go.RowKit
theorem oB (x0:FK×Yq6×(List Yq8)×ByteArray) (x1:Int) (r:Bool) (hm:dh x0 x1=some r) {I:Hp} {w0:World} (v0_0:Value) (v0_1:Value) (v0_2:Value) (v0_3:Value) (r0_0:(aa 179 (aw (aa 3 aN) (aa 172 (aw aN (aw aN (aw aN aN)))))).rd I [v0_0] x0.1.2) (r0_1:(aa 184 (aw aN (aw (aa 4 lz) (aa 91 (aa 3 aN))))).rd I [v0_1] x0.2.1.1) (r0_2:(aa 187 (aw aN (aw (aa 163 (aw aN (aw aN (aw aN aN)))) aN))).rd I [v0_2] x0.2.1.2) (r0_3:(aa 133 (aw aN (aw aN aN))).rd I [v0_3] x0.2.2.1) (hL:Lay Tryz.prog I):Con Tryz.prog 4 #[.agg #[.int .i64 x0.1.1,v0_0,v0_1,v0_2,v0_3,.string x0.2.2.2],.int .i64 x1] I w0 [] (fun v=>v= .bool r) (fun _=>[]):=fun w C hs =>
 ((R.oA).con w0 I [.agg #[.int .i64 x0.1.1,v0_0,v0_1,v0_2,v0_3,.string x0.2.2.2],.int .i64 x1] (x0,(x1,())) r hL ⟨_,_,rfl,⟨[.int .i64 x0.1.1,v0_0,v0_1,v0_2,v0_3,.string x0.2.2.2],rfl,⟨_,_,rfl,⟨_,_,rfl,rfl,r0_0⟩,⟨_,_,rfl,⟨_,_,rfl,r0_1,r0_2⟩,⟨_,_,rfl,r0_3,rfl⟩⟩⟩⟩,⟨_,_,rfl,⟨[.int .i64 x1],rfl,rfl⟩,rfl⟩⟩ hm w C hs).mono fun e w' ⟨v,he,_,hst⟩=>by
  obtain ⟨h1,h2⟩:=R.rG (h1:=fun _=>rfl) (show St I w0 w' (Ch.own R.Ty.bool.rep [v] r::C) from hst)
  exact ⟨v,he,(List.cons.inj h1).1,h2⟩
end D
namespace D
open Go.RowKit
end D
namespace D
open Go.RowKit
end D
namespace D
open Go.RowKit
end D
namespace D
open Go.RowKit
end D
namespace D
open Go.RowKit
end D
namespace D
open Go.RowKit
end D
namespace D
open Go.RowKit
def I64 (n:Int):Prop:= -9223372036854775808<=n/\n<=9223372036854775807
class Data (α:Type) where
 lim:α->Prop
 sm:α->Prop
instance:Data Int:=⟨I64,fun _=>True⟩
instance:Data Bool:=⟨fun _=>True,fun _=>True⟩
instance:Data ByteArray:=⟨fun s=>s.size<=9223372036854775807,fun s=>s.size<=1048576⟩
instance {α β:Type} [Data α] [Data β] :Data (α×β):=⟨fun x=>Data.lim x.1/\Data.lim x.2,fun x=>Data.sm x.1/\Data.sm x.2⟩
instance {α:Type} [Data α] :Data (List α):=⟨fun xs=>xs.length<=9223372036854775807/\ ∀x,x∈xs->Data.lim x,fun xs=>xs.length<=1048576/\ ∀x,x∈xs->Data.sm x⟩
structure Opens (P:Program) (t:TypeId) {α:Type} [Data α] (R:Rep α):Prop where
 out: ∀ {H:Type} (enc:TypeId×Value->H) (w:World) (fuel:Nat) (cs:List Value) (x:DataW H×List MemPlace),DataW.trod enc P w 0 (fun _=>true) true fuel t cs=some x-> ∃a:α,R.rd (hp w) cs a/\Data.lim a
theorem JZ {P:Program} {t:TypeId} (h:P.underlying t=some (.int .i64)):Opens P t aN:=by
 constructor
 intro H enc w fuel cs x hx
 obtain ⟨n,rfl,-,hw⟩:=DataW.trod_int h hx
 refine ⟨n,rfl,show I64 n from ?_⟩
 simp[Lit.wf,IntKind.min,IntKind.max,IntKind.signed,IntKind.bits] at hw
 unfold I64
 omega
theorem Hi {P:Program} {t:TypeId} (h:P.underlying t=some .bool):Opens P t lz:=by
 constructor
 intro H enc w fuel cs x hx
 obtain ⟨n,rfl,-⟩:=DataW.trod_bool h hx
 exact ⟨n,rfl,trivial⟩
theorem CK {P:Program} {t:TypeId} (h:P.underlying t=some .string):Opens P t zE:=by
 constructor
 intro H enc w fuel cs x hx
 obtain ⟨n,rfl,-,hm⟩:=DataW.trod_string h hx
 exact ⟨n,rfl,show n.size<=_ by unfold maxLen at hm;omega⟩
theorem eZ {P:Program} {t e:TypeId} {α:Type} [Data α] {R:Rep α} {E:TypeId} (h:P.underlying t=some (.slice e)) (hc:P.cellsOf e=R.size) (h0:0<R.size) (he:Opens P e R):Opens P t (aa E R):=by
 constructor
 intro H enc w fuel cs x hx
 rcases Go.Deep.open_slice h hx with ⟨rfl,-⟩ | ⟨a,len,cap,m,n,D,Pl,rfl,-,hl,hm,hmm,-,hel⟩
 ·exact ⟨[],⟨none,0,rfl,by simp,.inl rfl⟩,Nat.zero_le _,fun x hx=>by cases hx⟩
 have hlm:m=cap:=by simpa using hmm
 subst hlm
 rw[hc] at hel
 by_cases hz:len=0
 ·subst hz
  exact ⟨[],⟨some a,m,rfl,by simp,.inl rfl⟩,Nat.zero_le _,fun x hx=>by cases hx⟩
 ·have hone: ∀i,i<len-> ∃c:List Value,∃y:α,c.length=R.size/\(∀j,j<R.size->w.cell? ((a.add (i*R.size)).add j)=c[j]?)/\R.rd (hp w) c y/\Data.lim y:=by
   intro i hi
   obtain ⟨c,h1,h2⟩:=hel i (by omega)
   obtain ⟨-,h3,h4⟩:=World.cells?_some h1
   obtain ⟨y,hy⟩:=he.out enc w _ _ _ h2
   exact ⟨c,y,h3,h4,hy⟩
  obtain ⟨c0,y0,hc0,hr0,-⟩:=hone 0 (by omega)
  have h00:=hr0 0 h0
  have hsome: ∃v,c0[0]? =some v:=⟨_,List.getElem?_eq_getElem (by omega)⟩
  obtain ⟨v,hv⟩:=hsome
  rw[hv] at h00
  have ha:(a.add (0*R.size)).add 0=a:=by simp[Addr.add]
  rw[ha] at h00
  obtain ⟨b,off,spot⟩:=a
  have hb: ∃ccs T fr,w.heap[b]? =some (.cells ccs T fr)/\spot=none:=by
   simp only[World.cell?] at h00
   split at h00
   ·rename_i ccs T fr heq
    cases spot with
    | none=>exact ⟨ccs,T,fr,heq,rfl⟩
    | some s=>simp at h00
   ·simp at h00
  obtain ⟨ccs,T,fr,hh,rfl⟩:=hb
  have hadd: ∀i j,(Addr.add ⟨b,off,none⟩ i).add j=⟨b,off+i+j,none⟩:=by
   intro i j
   by_cases h1:i=0 <;> by_cases h2:j=0 <;> simp[Addr.add,h1,h2,Nat.add_assoc]
  haveI:Inhabited α:=⟨y0⟩
  obtain ⟨X,hX⟩:=Go.Deep.choose_lt (α:=α) (n:=len) (p:=fun i y=> ∃c:List Value,c.length=R.size/\(∀j,j<R.size->ccs.toList[off+i*R.size+j]? =c[j]?)/\R.rd (hp w) c y/\Data.lim y) (fun i hi=>by
   obtain ⟨c,y,h1,h2,h3⟩:=hone i hi
   refine ⟨y,c,h1,fun j hj=>?_,h3⟩
   have:=h2 j hj
   rw[hadd] at this
   simp only[World.cell?,hh] at this
   simpa using this)
  have hlen:((List.range len).map X).length=len:=by simp
  have hel2: ∀i y,((List.range len).map X)[i]? =some y->i<len/\y=X i:=fun i y hy=>by
   have hi:i<len:=by have:=(List.getElem?_eq_some_iff.1 hy).1;omega
   exact ⟨hi,by simpa [hi] using hy.symm⟩
  refine ⟨(List.range len).map X,⟨some ⟨b,off,none⟩,m,by rw[hlen],by rw[hlen];unfold maxLen at hm;unfold lim;omega,.inr ⟨b,off,ccs,T,fr,rfl,hh,fun i y hy=>?_⟩⟩,by rw[hlen];unfold maxLen at hm;omega,fun y hy=>?_⟩
  ·obtain ⟨hi,rfl⟩:=hel2 i y hy
   obtain ⟨c,e1,e2,e3,-⟩:=hX i hi
   exact ⟨c,e1,e2,e3⟩
  ·obtain ⟨i,hi,he⟩:=List.mem_iff_getElem?.1 hy |>.imp fun i hi=>hel2 i y hi
   obtain ⟨-,-,-,-,e4⟩:=hX i hi
   rw[he];exact e4
structure OpensFs (P:Program) (fs:List Field) (o:Nat) {α:Type} [Data α] (R:Rep α):Prop where
 out: ∀ {H:Type} (enc:TypeId×Value->H) (w:World) (fuel:Nat) (cs:List Value),cs.length=o+R.size->
  (∀f∈fs,∃x,DataW.trod enc P w 0 (fun _=>true) true fuel f.type ((cs.drop f.offset).take (P.cellsOf f.type))=some x)-> ∃a:α,R.rd (hp w) (cs.drop o) a/\Data.lim a
theorem fj {P:Program} {f:Field} {o:Nat} {α:Type} [Data α] {R:Rep α} (ho:f.offset=o) (hc:P.cellsOf f.type=R.size) (h:Opens P f.type R):OpensFs P [f] o R:=by
 constructor
 intro H enc w fuel cs hl hx
 obtain ⟨x,hx⟩:=hx f (by simp)
 rw[ho,hc,List.take_of_length_le (by rw[aliasOf13];omega)] at hx
 exact h.out enc w _ _ _ hx
theorem bK {P:Program} {f:Field} {fs:List Field} {o:Nat} {α β:Type} [Data α] [Data β] {R:Rep α} {S:Rep β} (ho:f.offset=o) (hc:P.cellsOf f.type=R.size) (h:Opens P f.type R) (hs:OpensFs P fs (o+R.size) S):OpensFs P (f::fs) o (aw R S):=by
 constructor
 intro H enc w fuel cs hl hx
 have hl':cs.length=o+(R.size+S.size):=hl
 obtain ⟨b,hb,hlb⟩:=hs.out enc w fuel cs (by omega) (fun g hg=>hx g (by simp[hg]))
 obtain ⟨x,hx⟩:=hx f (by simp)
 rw[ho,hc] at hx
 obtain ⟨a,ha,hla⟩:=h.out enc w _ _ _ hx
 refine ⟨(a,b),⟨(cs.drop o).take R.size,cs.drop (o+R.size),?_,ha,hb⟩,hla,hlb⟩
 rw[<-List.drop_drop,List.take_append_drop]
theorem cV {P:Program} {t:TypeId} {fs:Array Field} {α:Type} [Data α] {R:Rep α} (h:P.underlying t=some (.struct fs)) (hc:P.cellsOf t=R.size) (hf:OpensFs P fs.toList 0 R):Opens P t R:=by
 constructor
 intro H enc w fuel cs x hx
 obtain ⟨xs,n,-,-,hl,hn,hel⟩:=DataW.trod_struct h hx
 have:=hf.out enc w n cs (by omega) (fun f hm=>by
  obtain ⟨i,hi,rfl⟩:=List.getElem_of_mem hm
  have h1:fs[i]? =some fs.toList[i]:=by simp
  exact ⟨_,(hel i _ h1).trans (List.getElem?_eq_getElem (by simp at hi;omega))⟩)
 simpa using this
theorem St.below {w0 w:World} {cs:List Ch} (h:St (hp w0) w0 w cs):Below w0.heap.size w0 w:=by
 obtain ⟨⟨h1,h2,h3,h4⟩,h5,-⟩:=h
 refine ⟨h1,h2,h3,h4,fun b hb=>?_⟩
 have e:w0.heap[b]? =some w0.heap[b]:=Array.getElem?_eq_getElem hb
 rw[e];exact h5 b _ e
end D
namespace D
open Go.RowKit
theorem dI {n:Int} (h1: -9223372036854775808<=n) (h2:n<=9223372036854775807):IntKind.i64.wrap n=n:=by
 simp only[IntKind.wrap,IntKind.bits,IntKind.signed,Bool.true_and]
 split <;> rename_i h <;> simp at h <;> omega
theorem af {i:Nat} (h:i<9223372036854775807):IntKind.i64.wrap ((i:Int)+1)=((i+1:Nat):Int):=by
 rw[dI (by omega) (by omega)];rfl
theorem ax {α:Type} {xs:List α} {i:Nat} (h:i<xs.length):aK xs (i:Int)=some (xs[i]):=by
 unfold aK
 rw[if_pos (Int.natCast_nonneg _)]
 simp[h]
theorem bz {i n:Nat} (h:i<n):decide ((i:Int)<(n:Int))=true:=by simp[h]
theorem bj {n:Nat} :decide ((n:Int)<(n:Int))=false:=by simp
theorem fO (k:Nat) (h:k<=9223372036854775807):k<aS:=by unfold aS;omega
theorem so {α:Type} {b n:Nat} {z:α} (h:n*b<=140737488355328):mkI b (n:Int) z=some (List.replicate n z):=by
 unfold mkI
 rw[if_pos ⟨Int.natCast_nonneg _,by simpa using h⟩];simp
theorem CL {R S:Type} {f:S->Option (Out R S)} (inv:Nat->S) (N:Nat) (h: ∀i,i<N->f (inv i)=some (.nxt (inv (i+1)))): ∀(m i k:Nat),i+m=N->aq f (k+m) (inv i)=aq f k (inv N)
 | 0,i,k,e=>by rw[show i=N by omega];rfl
 | m+1,i,k,e=>by
  rw[<-Nat.add_assoc,aq,h i (by omega)]
  exact CL inv N h m (i+1) k (by omega)
theorem CM {R S:Type} {f:S->Option (Out R S)} (inv:Nat->S) (N:Nat) {s:S} (h: ∀i,i<N->f (inv i)=some (.nxt (inv (i+1)))) (he:f (inv N)=some (.brk s)) (hN:N<aS):aq f aS (inv 0)=some (.brk s):=by
 have e:aS=(aS - N - 1)+1+N:=by omega
 rw[e,CL inv N h N 0 _ (by omega),aq,he]
theorem toL {R α:Type} {f:List α×Int->Option (Out R (List α×Int))} {z:α} (xs:List α) (hN:xs.length<=9223372036854775807)
  (hstep: ∀ys i (h:i<xs.length),ys.length=xs.length->f (ys,(i:Int))=some (.nxt (ys.set i xs[i],((i+1:Nat):Int)))) (hend: ∀ys,ys.length=xs.length->f (ys,(xs.length:Int))=some (.brk (ys,(xs.length:Int)))) :
  aq f aS (List.replicate xs.length z,0)=some (.brk (xs,(xs.length:Int))):=by
 have h0:(List.replicate xs.length z,(0:Int))=(fun i:Nat=>(xs.take i++(List.replicate xs.length z).drop i,(i:Int))) 0:=by simp
 rw[h0]
 refine CM (fun i:Nat=>(xs.take i++(List.replicate xs.length z).drop i,(i:Int))) xs.length (fun i hi=>?_) ?_ (fO _ hN)
 ·have hl:(xs.take i++(List.replicate xs.length z).drop i).length=xs.length:=by
   rw[aliasOf5,aliasOf12,aliasOf13,List.length_replicate];omega
  rw[hstep _ i hi hl]
  congr 3
  have ht:(xs.take i).length=i:=by rw[aliasOf12];omega
  rw[List.set_append_right _ _ (by omega),ht,Nat.sub_self,List.drop_eq_getElem_cons (by rw[List.length_replicate];exact hi),List.set_cons_zero,List.take_succ_eq_append_getElem hi,aliasOf4]
  rfl
 ·have:=hend xs rfl
  rw[List.take_of_length_le (al _),List.drop_of_length_le (by rw[List.length_replicate];exact al _),List.append_nil]
  exact this
def C6 {α:Type} [Data α] (m:α->Int->Option Int):Prop:= ∀x l,Data.lim x->0<=l->l<=1048576-> ∃r,m x l=some r/\(r<0\/(0<=r/\r<=l/\Data.sm x))
def AK {α:Type} [Data α] (m:α->Option α):Prop:= ∀x,Data.sm x->m x=some x
def AL {α:Type} [Data α] [DecidableEq α] (m:α->α->Option Bool):Prop:= ∀x y,Data.sm x->Data.sm y->m x y=some (decide (x=y))
theorem UW {α:Type} [Data α] {f:Int×Int->Option Yq9 } (xs:List α)
  (hstep: ∀i (h:i<xs.length) l,0<=l->l<=1048576-> ∃r,f (l,(i:Int))=some (if r<0 then .ret (-1) else .nxt (r,((i+1:Nat):Int)))/\(r<0\/(0<=r/\r<=l/\Data.sm xs[i])))
  (hend: ∀l,f (l,(xs.length:Int))=some (.brk (l,(xs.length:Int)))): ∀(m i k:Nat) (l:Int),i+m=xs.length->m<k->0<=l->l<=1048576->
   aq f k (l,(i:Int))=some (.ret (-1))\/ ∃r,aq f k (l,(i:Int))=some (.brk (r,(xs.length:Int)))/\0<=r/\r<=l/\ ∀j (h:j<xs.length),i<=j->Data.sm xs[j]
 | 0,i,k,l,e,hk,h0,h1=>by
  obtain ⟨k,rfl⟩: ∃q,k=q+1:=⟨k - 1,by omega⟩
  obtain rfl:i=xs.length:=by omega
  exact .inr ⟨l,by rw[aq,hend],h0,Int.le_refl _,fun j hj hi=>by omega⟩
 | m+1,i,k,l,e,hk,h0,h1=>by
  obtain ⟨k,rfl⟩: ∃q,k=q+1:=⟨k - 1,by omega⟩
  obtain ⟨r,e1,e2⟩:=hstep i (by omega) l h0 h1
  rw[aq,e1]
  rcases e2 with e2 | ⟨e2,e3,e4⟩
  ·rw[if_pos e2];exact .inl rfl
  ·rw[if_neg (by omega)]
   rcases UW xs hstep hend m (i+1) k r (by omega) (by omega) e2 (by omega) with h | ⟨q,g1,g2,g3,g4⟩
   ·exact .inl h
   ·refine .inr ⟨q,g1,g2,by omega,fun j hj hi=>?_⟩
    by_cases hji:j=i
    ·subst hji;exact e4
    ·exact g4 j hj (by omega)
theorem szL {α:Type} [Data α] {f:Int×Int->Option Yq9 } (xs:List α) {l:Int} (hN:xs.length<=9223372036854775807)
  (hstep: ∀i (h:i<xs.length) l,0<=l->l<=1048576-> ∃r,f (l,(i:Int))=some (if r<0 then .ret (-1) else .nxt (r,((i+1:Nat):Int)))/\(r<0\/(0<=r/\r<=l/\Data.sm xs[i])))
  (hend: ∀l,f (l,(xs.length:Int))=some (.brk (l,(xs.length:Int)))) (h0:0<=l) (h1:l<=1048576) :
  ∃r,(if decide (IntKind.i64.wrap (l - (xs.length:Int))<0) then (some (-1)) else (aH (aq f aS (IntKind.i64.wrap (l - (xs.length:Int)),0)) (fun r=>some r) (fun s4=>some s4.1)))=some r/\(r<0\/(0<=r/\r<=l/\Data.sm xs)):=by
 rw[dI (by omega) (by omega)]
 by_cases h:l - (xs.length:Int)<0
 ·exact ⟨-1,by rw[if_pos (decide_eq_true h)],.inl (by decide)⟩
 ·rw[if_neg (by simpa using h)]
  rcases UW xs hstep hend xs.length 0 aS (l - xs.length) (by omega) (fO _ hN) (by omega) (by omega) with e | ⟨r,e,g1,g2,g3⟩
  ·exact ⟨-1,by rw[show ((0:Int))=((0:Nat):Int) from rfl,e];rfl,.inl (by decide)⟩
  ·refine ⟨r,by rw[show ((0:Int))=((0:Nat):Int) from rfl,e];rfl,.inr ⟨g1,by omega,by omega,fun x hx=>?_⟩⟩
   obtain ⟨j,hj,rfl⟩:=List.getElem_of_mem hx
   exact g3 j hj (Nat.zero_le _)
theorem szF {α:Type} [Data α] (xs:List α) {l:Int} (hN:xs.length<=9223372036854775807) (hf: ∀x:α,Data.sm x) (h0:0<=l) (h1:l<=1048576) :
  ∃r,(if decide (IntKind.i64.wrap (l - (xs.length:Int))<0) then (some (-1)) else (some (IntKind.i64.wrap (l - (xs.length:Int)))))=some r/\(r<0\/(0<=r/\r<=l/\Data.sm xs)):=by
 rw[dI (by omega) (by omega)]
 by_cases h:l - (xs.length:Int)<0
 ·exact ⟨-1,by rw[if_pos (decide_eq_true h)],.inl (by decide)⟩
 ·exact ⟨_,by rw[if_neg (by simpa using h)],.inr ⟨by omega,by omega,by omega,fun x _=>hf x⟩⟩
theorem Ue {α:Type} [DecidableEq α] {f:Int->Option (Out Bool Int)} (xs ys:List α) (hl:xs.length=ys.length)
  (hstep: ∀i (h:i<xs.length) (h':i<ys.length),f (i:Int)=some (if xs[i] =ys[i] then .nxt ((i+1:Nat):Int) else .ret false)) (hend:f (xs.length:Int)=some (.brk (xs.length:Int))): ∀(m i k:Nat),i+m=xs.length->m<k->
   aq f k (i:Int)=some (if xs.drop i=ys.drop i then .brk (xs.length:Int) else .ret false)
 | 0,i,k,e,hk=>by
  obtain ⟨k,rfl⟩: ∃q,k=q+1:=⟨k - 1,by omega⟩
  obtain rfl:i=xs.length:=by omega
  rw[aq,hend,List.drop_of_length_le (al _),List.drop_of_length_le (by omega),if_pos rfl]
 | m+1,i,k,e,hk=>by
  obtain ⟨k,rfl⟩: ∃q,k=q+1:=⟨k - 1,by omega⟩
  have hi:i<xs.length:=by omega
  have hi':i<ys.length:=by omega
  have d1:=List.drop_eq_getElem_cons hi
  have d2:=List.drop_eq_getElem_cons hi'
  rw[aq,hstep i hi hi',d1,d2]
  by_cases h:xs[i] =ys[i]
  ·rw[if_pos h]
   simp only
   rw[Ue xs ys hl hstep hend m (i+1) k (by omega) (by omega)]
   simp only[List.cons.injEq,h,true_and]
  ·rw[if_neg h]
   simp only[List.cons.injEq,h,false_and,if_false]
theorem eqL {α:Type} [DecidableEq α] {f:Int->Option (Out Bool Int)} (xs ys:List α) (hN:xs.length<=9223372036854775807)
  (hstep: ∀i (h:i<xs.length) (h':i<ys.length),f (i:Int)=some (if xs[i] =ys[i] then .nxt ((i+1:Nat):Int) else .ret false)) (hend:f (xs.length:Int)=some (.brk (xs.length:Int))) :
  (if (xs.length:Int) !=(ys.length:Int) then (some false) else (aH (aq f aS 0) (fun r=>some r) (fun s4=>some true)))=some (decide (xs=ys)):=by
 by_cases hl:xs.length=ys.length
 ·rw[if_neg (by rw[hl];simp),show ((0:Int))=((0:Nat):Int) from rfl,Ue xs ys hl hstep hend xs.length 0 aS (by omega) (fO _ hN)]
  by_cases h:xs=ys
  ·subst h;simp[aH]
  ·simp[aH,h]
 ·have:xs≠ys:=fun e=>hl (by rw[e])
  rw[if_pos (by simp;omega)];simp[this]
theorem eD {α:Type} {c d:Prop} [Decidable c] [Decidable d] {a b:α} (h:c↔d):(if c then some a else some b)=some (if d then a else b):=by
 by_cases k:c
 ·rw[if_pos k,if_pos (h.1 k)]
 ·rw[if_neg k,if_neg (fun e=>k (h.2 e))]
theorem nJ {α:Type} {c d:Prop} [Decidable c] [Decidable d] {a b:α} (h:c↔ ¬d):(if c then some b else some a)=some (if d then a else b):=by
 by_cases k:d
 ·rw[if_neg (fun e=>h.1 e k),if_pos k]
 ·rw[if_pos (h.2 k),if_neg k]
theorem eqB {α:Type} [DecidableEq α] {f:Int->Option (Out Bool Int)} {K:Option Bool} (xs ys:List α) (hN:xs.length<=9223372036854775807) (hl:xs.length=ys.length)
  (hstep: ∀i (h:i<xs.length) (h':i<ys.length),f (i:Int)=some (if xs[i] =ys[i] then .nxt ((i+1:Nat):Int) else .ret false)) (hend:f (xs.length:Int)=some (.brk (xs.length:Int))) :
  aH (aq f aS 0) (fun r=>some r) (fun s4=>K)=(if xs=ys then K else some false):=by
 rw[show ((0:Int))=((0:Nat):Int) from rfl,Ue xs ys hl hstep hend xs.length 0 aS (by omega) (fO _ hN)]
 by_cases h:xs=ys
 ·subst h;simp[aH]
 ·simp[aH,h]
theorem SD {f:Int->Option (Out Int Int)} (xs ys:List Int)
  (hstep: ∀i (h:i<xs.length) (h':i<ys.length),f (i:Int)=some (if xs[i] < ys[i] then .ret (-1) else if xs[i] > ys[i] then .ret 1 else .nxt ((i+1:Nat):Int))) (hend: ∀i,xs.length<=i\/ys.length<=i->f (i:Int)=some (.brk (i:Int))): ∀(m i k:Nat),i+m=xs.length->m<k->
   (∃r,aq f k (i:Int)=some (.ret r)/\r≠0/\xs≠ys)\/ ∃s,aq f k (i:Int)=some (.brk s)/\(xs.length=ys.length->xs.drop i=ys.drop i)
 | 0,i,k,e,hk=>by
  obtain ⟨k,rfl⟩: ∃q,k=q+1:=⟨k - 1,by omega⟩
  exact .inr ⟨_,by rw[aq,hend i (.inl (by omega))],fun h=>by rw[List.drop_of_length_le (by omega),List.drop_of_length_le (by omega)]⟩
 | m+1,i,k,e,hk=>by
  obtain ⟨k,rfl⟩: ∃q,k=q+1:=⟨k - 1,by omega⟩
  have hi:i<xs.length:=by omega
  by_cases hi':i<ys.length
  ·have hne: ∀h:xs[i] ≠ys[i],xs≠ys:=fun h e=>h (by subst e;rfl)
   rw[aq,hstep i hi hi']
   by_cases h1:xs[i] < ys[i]
   ·rw[if_pos h1];exact .inl ⟨-1,rfl,by decide,hne (by omega)⟩
   ·rw[if_neg h1]
    by_cases h2:xs[i] > ys[i]
    ·rw[if_pos h2];exact .inl ⟨1,rfl,by decide,hne (by omega)⟩
    ·rw[if_neg h2]
     rcases SD xs ys hstep hend m (i+1) k (by omega) (by omega) with h | ⟨s,g1,g2⟩
     ·exact .inl h
     ·refine .inr ⟨s,g1,fun hl=>?_⟩
      have h3:xs[i] =ys[i]:=by omega
      rw[List.drop_eq_getElem_cons hi,List.drop_eq_getElem_cons hi',g2 hl,h3]
  ·exact .inr ⟨_,by rw[aq,hend i (.inr (by omega))],fun h=>by omega⟩
instance:LawfulBEq ByteArray where
 eq_of_beq {a b} h:=ByteArray.ext (eq_of_beq (show (a.data==b.data)=true from h))
 rfl {a}:=beq_self_eq_true a.data
theorem UX {α β γ δ:Type} {a b:α×β×γ×δ} :(a.1=b.1/\a.2.1=b.2.1/\a.2.2.1=b.2.2.1/\a.2.2.2=b.2.2.2)↔a=b:=by rw[Prod.ext_iff,Prod.ext_iff,Prod.ext_iff]
theorem eE {α β:Type} (p:α×β):(p.1,p.2)=p:=rfl
theorem aL {α:Type} [Data α] {xs:List α} (h:Data.sm xs):xs.length<=1048576/\ ∀x,x∈xs->Data.sm x:=h
theorem dE {α:Type} [Data α] {xs:List α} (h:Data.lim xs):xs.length<=9223372036854775807/\ ∀x,x∈xs->Data.lim x:=h
end D
set_option synthInstance.maxSize 20000
set_option synthInstance.maxHeartbeats 2000000
namespace D
open Go.RowKit
theorem FN:C6 pN:=fun xs l hl h0 h1=>szF xs (dE hl).1 (fun _=>trivial) h0 h1
theorem J4:C6 qL:=fun xs l hl h0 h1=>szF xs (dE hl).1 (fun _=>⟨trivial,trivial,trivial,trivial⟩) h0 h1
theorem J5:C6 nl:=by
 intro x l hl h0 h1
 unfold nl
 try simp only[eE]
 obtain ⟨r1,e1,k1⟩:=FN x.1 l hl.1 (by omega) (by omega)
 rw[e1];simp only[aliasOf0]
 rcases k1 with k1 | ⟨k1,j1,s1⟩
 ·exact ⟨-1,by rw[if_pos (decide_eq_true k1)],.inl (by decide)⟩
 rw[if_neg (by simpa using k1)]
 obtain ⟨r2,e2,k2⟩:=J4 x.2 r1 hl.2 (by omega) (by omega)
 rw[e2];simp only[aliasOf0]
 rcases k2 with k2 | ⟨k2,j2,s2⟩
 ·exact ⟨-1,by rw[if_pos (decide_eq_true k2)],.inl (by decide)⟩
 rw[if_neg (by simpa using k2)]
 exact ⟨_,rfl,.inr ⟨by omega,by omega,⟨s1,s2⟩⟩⟩
theorem Hj:C6 oR:=fun xs l hl h0 h1=>szL (f:=iz xs) xs (dE hl).1 (fun i h l k0 k1=>by
 obtain ⟨r,e,hr⟩:=J5 xs[i] l ((dE hl).2 _ (List.getElem_mem h)) k0 k1
 refine ⟨r,?_,hr⟩
 simp only[iz,bz h,if_true,ax h,aliasOf0,eE,e,af (show i<9223372036854775807 by have:=(dE hl).1;omega)]
 exact eD (by simp)) (fun l=>by simp only[iz,bj];rfl) h0 h1
theorem Ej:C6 ko:=by
 intro x l hl h0 h1
 unfold ko
 try simp only[eE]
 obtain ⟨r1,e1,k1⟩:=Hj x.2 l hl.2 (by omega) (by omega)
 rw[e1];simp only[aliasOf0]
 rcases k1 with k1 | ⟨k1,j1,s1⟩
 ·exact ⟨-1,by rw[if_pos (decide_eq_true k1)],.inl (by decide)⟩
 rw[if_neg (by simpa using k1)]
 exact ⟨_,rfl,.inr ⟨by omega,by omega,⟨trivial,s1⟩⟩⟩
theorem J6:C6 qM:=fun xs l hl h0 h1=>szF xs (dE hl).1 (fun _=>trivial) h0 h1
theorem J7:C6 qN:=fun xs l hl h0 h1=>szL (f:=jw xs) xs (dE hl).1 (fun i h l k0 k1=>by
 obtain ⟨r,e,hr⟩:=FN xs[i] l ((dE hl).2 _ (List.getElem_mem h)) k0 k1
 refine ⟨r,?_,hr⟩
 simp only[jw,bz h,if_true,ax h,aliasOf0,eE,e,af (show i<9223372036854775807 by have:=(dE hl).1;omega)]
 exact eD (by simp)) (fun l=>by simp only[jw,bj];rfl) h0 h1
theorem AM:C6 iA:=by
 intro x l hl h0 h1
 unfold iA
 try simp only[eE]
 obtain ⟨r1,e1,k1⟩:=J6 x.2.1 l hl.2.1 (by omega) (by omega)
 rw[e1];simp only[aliasOf0]
 rcases k1 with k1 | ⟨k1,j1,s1⟩
 ·exact ⟨-1,by rw[if_pos (decide_eq_true k1)],.inl (by decide)⟩
 rw[if_neg (by simpa using k1)]
 obtain ⟨r2,e2,k2⟩:=J7 x.2.2 r1 hl.2.2 (by omega) (by omega)
 rw[e2];simp only[aliasOf0]
 rcases k2 with k2 | ⟨k2,j2,s2⟩
 ·exact ⟨-1,by rw[if_pos (decide_eq_true k2)],.inl (by decide)⟩
 rw[if_neg (by simpa using k2)]
 exact ⟨_,rfl,.inr ⟨by omega,by omega,⟨trivial,s1,s2⟩⟩⟩
theorem yp:C6 j7:=fun xs l hl h0 h1=>szL (f:=eN xs) xs (dE hl).1 (fun i h l k0 k1=>by
 obtain ⟨r,e,hr⟩:=AM xs[i] l ((dE hl).2 _ (List.getElem_mem h)) k0 k1
 refine ⟨r,?_,hr⟩
 simp only[eN,bz h,if_true,ax h,aliasOf0,eE,e,af (show i<9223372036854775807 by have:=(dE hl).1;omega)]
 exact eD (by simp)) (fun l=>by simp only[eN,bj];rfl) h0 h1
theorem Hk:C6 oS:=fun xs l hl h0 h1=>szF xs (dE hl).1 (fun _=>⟨trivial,trivial,trivial,trivial⟩) h0 h1
theorem Nm:C6 pO:=by
 intro x l hl h0 h1
 unfold pO
 try simp only[eE]
 obtain ⟨r1,e1,k1⟩:=Hk x l hl (by omega) (by omega)
 rw[e1];simp only[aliasOf0]
 rcases k1 with k1 | ⟨k1,j1,s1⟩
 ·exact ⟨-1,by rw[if_pos (decide_eq_true k1)],.inl (by decide)⟩
 rw[if_neg (by simpa using k1)]
 exact ⟨_,rfl,.inr ⟨by omega,by omega,s1⟩⟩
theorem yq:C6 gy:=by
 intro x l hl h0 h1
 unfold gy
 try simp only[eE]
 obtain ⟨r1,e1,k1⟩:=Nm x.2.1 l hl.2.1 (by omega) (by omega)
 rw[e1];simp only[aliasOf0]
 rcases k1 with k1 | ⟨k1,j1,s1⟩
 ·exact ⟨-1,by rw[if_pos (decide_eq_true k1)],.inl (by decide)⟩
 rw[if_neg (by simpa using k1)]
 exact ⟨_,rfl,.inr ⟨by omega,by omega,⟨trivial,s1,trivial⟩⟩⟩
theorem xq:C6 je:=fun xs l hl h0 h1=>szL (f:=dM xs) xs (dE hl).1 (fun i h l k0 k1=>by
 obtain ⟨r,e,hr⟩:=yq xs[i] l ((dE hl).2 _ (List.getElem_mem h)) k0 k1
 refine ⟨r,?_,hr⟩
 simp only[dM,bz h,if_true,ax h,aliasOf0,eE,e,af (show i<9223372036854775807 by have:=(dE hl).1;omega)]
 exact eD (by simp)) (fun l=>by simp only[dM,bj];rfl) h0 h1
theorem CN:C6 jx:=by
 intro x l hl h0 h1
 unfold jx
 try simp only[eE]
 obtain ⟨r1,e1,k1⟩:=yp x.1 l hl.1 (by omega) (by omega)
 rw[e1];simp only[aliasOf0]
 rcases k1 with k1 | ⟨k1,j1,s1⟩
 ·exact ⟨-1,by rw[if_pos (decide_eq_true k1)],.inl (by decide)⟩
 rw[if_neg (by simpa using k1)]
 obtain ⟨r2,e2,k2⟩:=xq x.2 r1 hl.2 (by omega) (by omega)
 rw[e2];simp only[aliasOf0]
 rcases k2 with k2 | ⟨k2,j2,s2⟩
 ·exact ⟨-1,by rw[if_pos (decide_eq_true k2)],.inl (by decide)⟩
 rw[if_neg (by simpa using k2)]
 exact ⟨_,rfl,.inr ⟨by omega,by omega,⟨s1,s2⟩⟩⟩
theorem xr:C6 jf:=fun xs l hl h0 h1=>szF xs (dE hl).1 (fun _=>⟨trivial,trivial,trivial⟩) h0 h1
theorem Hl:C6 lG:=by
 intro x l hl h0 h1
 unfold lG
 try simp only[eE]
 obtain ⟨r1,e1,k1⟩:=Ej x.1 l hl.1 (by omega) (by omega)
 rw[e1];simp only[aliasOf0]
 rcases k1 with k1 | ⟨k1,j1,s1⟩
 ·exact ⟨-1,by rw[if_pos (decide_eq_true k1)],.inl (by decide)⟩
 rw[if_neg (by simpa using k1)]
 obtain ⟨r2,e2,k2⟩:=CN x.2.1 r1 hl.2.1 (by omega) (by omega)
 rw[e2];simp only[aliasOf0]
 rcases k2 with k2 | ⟨k2,j2,s2⟩
 ·exact ⟨-1,by rw[if_pos (decide_eq_true k2)],.inl (by decide)⟩
 rw[if_neg (by simpa using k2)]
 obtain ⟨r3,e3,k3⟩:=xr x.2.2.1 r2 hl.2.2.1 (by omega) (by omega)
 rw[e3];simp only[aliasOf0]
 rcases k3 with k3 | ⟨k3,j3,s3⟩
 ·exact ⟨-1,by rw[if_pos (decide_eq_true k3)],.inl (by decide)⟩
 rw[if_neg (by simpa using k3)]
 rw[dI (by have:x.2.2.2.size<=9223372036854775807:=hl.2.2.2;omega) (by omega)]
 by_cases k4:r3 - (x.2.2.2.size:Int)<0
 ·exact ⟨-1,by rw[if_pos (decide_eq_true k4)],.inl (by decide)⟩
 rw[if_neg (by simpa using k4)]
 have s4:x.2.2.2.size<=1048576:=by omega
 exact ⟨_,rfl,.inr ⟨by omega,by omega,⟨s1,s2,s3,s4⟩⟩⟩
theorem FO:AK mz:=by
 intro xs hx
 have hn:=(aL hx).1
 unfold mz
 rw[so (by omega)];simp only[aliasOf0]
 rw[toL (f:=kq xs) xs (by omega) (fun ys i h hy=>by simp only[kq,bz h,if_true,ax h,ax (show i<ys.length by omega),aliasOf0,eE,af (show i<9223372036854775807 by omega),Int.toNat_natCast]) (fun ys hy=>by simp only[kq,bj];rfl)]
 rfl
theorem Nn:AK pQ:=by
 intro x hx
 unfold pQ
 simp only[eE,aliasOf0]
theorem J8:AK nr:=by
 intro xs hx
 have hn:=(aL hx).1
 unfold nr
 rw[so (by omega)];simp only[aliasOf0]
 rw[toL (f:=jD xs) xs (by omega) (fun ys i h hy=>by simp only[jD,bz h,if_true,ax h,ax (show i<ys.length by omega),aliasOf0,eE,Nn xs[i] ((aL hx).2 _ (List.getElem_mem h)),af (show i<9223372036854775807 by omega),Int.toNat_natCast]) (fun ys hy=>by simp only[jD,bj];rfl)]
 rfl
theorem J9:AK nt:=by
 intro x hx
 unfold nt
 simp only[eE,aliasOf0,FO x.1 hx.1,J8 x.2 hx.2]
theorem Hm:AK lL:=by
 intro xs hx
 have hn:=(aL hx).1
 unfold lL
 rw[so (by omega)];simp only[aliasOf0]
 rw[toL (f:=iE xs) xs (by omega) (fun ys i h hy=>by simp only[iE,bz h,if_true,ax h,ax (show i<ys.length by omega),aliasOf0,eE,J9 xs[i] ((aL hx).2 _ (List.getElem_mem h)),af (show i<9223372036854775807 by omega),Int.toNat_natCast]) (fun ys hy=>by simp only[iE,bj];rfl)]
 rfl
theorem Ek:AK kt:=by
 intro x hx
 unfold kt
 simp only[eE,aliasOf0,Hm x.2 hx.2]
theorem Ka:AK nw:=by
 intro xs hx
 have hn:=(aL hx).1
 unfold nw
 rw[so (by omega)];simp only[aliasOf0]
 rw[toL (f:=jE xs) xs (by omega) (fun ys i h hy=>by simp only[jE,bz h,if_true,ax h,ax (show i<ys.length by omega),aliasOf0,eE,af (show i<9223372036854775807 by omega),Int.toNat_natCast]) (fun ys hy=>by simp only[jE,bj];rfl)]
 rfl
theorem Kb:AK ny:=by
 intro xs hx
 have hn:=(aL hx).1
 unfold ny
 rw[so (by omega)];simp only[aliasOf0]
 rw[toL (f:=jF xs) xs (by omega) (fun ys i h hy=>by simp only[jF,bz h,if_true,ax h,ax (show i<ys.length by omega),aliasOf0,eE,FO xs[i] ((aL hx).2 _ (List.getElem_mem h)),af (show i<9223372036854775807 by omega),Int.toNat_natCast]) (fun ys hy=>by simp only[jF,bj];rfl)]
 rfl
theorem AN:AK iF:=by
 intro x hx
 unfold iF
 simp only[eE,aliasOf0,Ka x.2.1 hx.2.1,Kb x.2.2 hx.2.2]
theorem yr:AK gB:=by
 intro xs hx
 have hn:=(aL hx).1
 unfold gB
 rw[so (by omega)];simp only[aliasOf0]
 rw[toL (f:=eR xs) xs (by omega) (fun ys i h hy=>by simp only[eR,bz h,if_true,ax h,ax (show i<ys.length by omega),aliasOf0,eE,AN xs[i] ((aL hx).2 _ (List.getElem_mem h)),af (show i<9223372036854775807 by omega),Int.toNat_natCast]) (fun ys hy=>by simp only[eR,bj];rfl)]
 rfl
theorem Kc:AK nz:=by
 intro x hx
 unfold nz
 simp only[eE,aliasOf0]
theorem Hn:AK lM:=by
 intro xs hx
 have hn:=(aL hx).1
 unfold lM
 rw[so (by omega)];simp only[aliasOf0]
 rw[toL (f:=iG xs) xs (by omega) (fun ys i h hy=>by simp only[iG,bz h,if_true,ax h,ax (show i<ys.length by omega),aliasOf0,eE,Kc xs[i] ((aL hx).2 _ (List.getElem_mem h)),af (show i<9223372036854775807 by omega),Int.toNat_natCast]) (fun ys hy=>by simp only[iG,bj];rfl)]
 rfl
theorem No:AK pR:=by
 intro x hx
 unfold pR
 simp only[eE,aliasOf0,Hn x hx]
theorem yt:AK gC:=by
 intro x hx
 unfold gC
 simp only[eE,aliasOf0,No x.2.1 hx.2.1]
theorem xt:AK fY:=by
 intro xs hx
 have hn:=(aL hx).1
 unfold fY
 rw[so (by omega)];simp only[aliasOf0]
 rw[toL (f:=dP xs) xs (by omega) (fun ys i h hy=>by simp only[dP,bz h,if_true,ax h,ax (show i<ys.length by omega),aliasOf0,eE,yt xs[i] ((aL hx).2 _ (List.getElem_mem h)),af (show i<9223372036854775807 by omega),Int.toNat_natCast]) (fun ys hy=>by simp only[dP,bj];rfl)]
 rfl
theorem CO:AK jG:=by
 intro x hx
 unfold jG
 simp only[eE,aliasOf0,yr x.1 hx.1,xt x.2 hx.2]
theorem yu:AK gD:=by
 intro x hx
 unfold gD
 simp only[eE,aliasOf0]
theorem xu:AK fZ:=by
 intro xs hx
 have hn:=(aL hx).1
 unfold fZ
 rw[so (by omega)];simp only[aliasOf0]
 rw[toL (f:=dQ xs) xs (by omega) (fun ys i h hy=>by simp only[dQ,bz h,if_true,ax h,ax (show i<ys.length by omega),aliasOf0,eE,yu xs[i] ((aL hx).2 _ (List.getElem_mem h)),af (show i<9223372036854775807 by omega),Int.toNat_natCast]) (fun ys hy=>by simp only[dQ,bj];rfl)]
 rfl
theorem Ho:AK gS:=by
 intro x hx
 unfold gS
 simp only[eE,aliasOf0,Ek x.1 hx.1,CO x.2.1 hx.2.1,xu x.2.2.1 hx.2.2.1]
theorem FP:AL pU:=fun xs ys hx hy=>eqL (f:=ku xs ys) xs ys (by have:=(aL hx).1;omega) (fun i h h'=>by
 simp only[ku,bz h,if_true,ax h,ax h',aliasOf0,eE,af (show i<9223372036854775807 by have:=(aL hx).1;omega)]
 first | exact eD (by simp) | exact nJ (by simp) | exact eD (by simp[Prod.ext_iff])) (by simp only[ku,bj];rfl)
theorem Np:AL pV:=by
 intro x y hx hy
 unfold pV
 try simp only[eE,aliasOf0]
 repeat' split
 all_goals simp_all[Prod.ext_iff]
theorem Ke:AL qR:=fun xs ys hx hy=>eqL (f:=jJ xs ys) xs ys (by have:=(aL hx).1;omega) (fun i h h'=>by
 simp only[jJ,bz h,if_true,ax h,ax h',aliasOf0,eE,Np xs[i] ys[i] ((aL hx).2 _ (List.getElem_mem h)) ((aL hy).2 _ (List.getElem_mem h')),af (show i<9223372036854775807 by have:=(aL hx).1;omega)]
 first | exact eD (by simp) | exact nJ (by simp) | exact eD (by simp[Prod.ext_iff])) (by simp only[jJ,bj];rfl)
theorem Kf:AL nD:=by
 intro x y hx hy
 unfold nD
 try simp only[eE,aliasOf0,FP x.1 y.1 hx.1 hy.1,Ke x.2 y.2 hx.2 hy.2]
 repeat' split
 all_goals simp_all[Prod.ext_iff]
theorem Hq:AL oT:=fun xs ys hx hy=>eqL (f:=iL xs ys) xs ys (by have:=(aL hx).1;omega) (fun i h h'=>by
 simp only[iL,bz h,if_true,ax h,ax h',aliasOf0,eE,Kf xs[i] ys[i] ((aL hx).2 _ (List.getElem_mem h)) ((aL hy).2 _ (List.getElem_mem h')),af (show i<9223372036854775807 by have:=(aL hx).1;omega)]
 first | exact eD (by simp) | exact nJ (by simp) | exact eD (by simp[Prod.ext_iff])) (by simp only[iL,bj];rfl)
theorem El:AL ky:=by
 intro x y hx hy
 unfold ky
 try simp only[eE,aliasOf0,Hq x.2 y.2 hx.2 hy.2]
 repeat' split
 all_goals simp_all[Prod.ext_iff]
theorem Kg:AL qS:=fun xs ys hx hy=>eqL (f:=jK xs ys) xs ys (by have:=(aL hx).1;omega) (fun i h h'=>by
 simp only[jK,bz h,if_true,ax h,ax h',aliasOf0,eE,af (show i<9223372036854775807 by have:=(aL hx).1;omega)]
 first | exact eD (by simp) | exact nJ (by simp) | exact eD (by simp[Prod.ext_iff])) (by simp only[jK,bj];rfl)
theorem Kh:AL qT:=fun xs ys hx hy=>eqL (f:=jL xs ys) xs ys (by have:=(aL hx).1;omega) (fun i h h'=>by
 simp only[jL,bz h,if_true,ax h,ax h',aliasOf0,eE,FP xs[i] ys[i] ((aL hx).2 _ (List.getElem_mem h)) ((aL hy).2 _ (List.getElem_mem h')),af (show i<9223372036854775807 by have:=(aL hx).1;omega)]
 first | exact eD (by simp) | exact nJ (by simp) | exact eD (by simp[Prod.ext_iff])) (by simp only[jL,bj];rfl)
theorem AO:AL iM:=by
 intro x y hx hy
 unfold iM
 try simp only[eE,aliasOf0,Kg x.2.1 y.2.1 hx.2.1 hy.2.1,Kh x.2.2 y.2.2 hx.2.2 hy.2.2]
 repeat' split
 all_goals simp_all[Prod.ext_iff]
theorem yw:AL j9:=fun xs ys hx hy=>eqL (f:=eX xs ys) xs ys (by have:=(aL hx).1;omega) (fun i h h'=>by
 simp only[eX,bz h,if_true,ax h,ax h',aliasOf0,eE,AO xs[i] ys[i] ((aL hx).2 _ (List.getElem_mem h)) ((aL hy).2 _ (List.getElem_mem h')),af (show i<9223372036854775807 by have:=(aL hx).1;omega)]
 first | exact eD (by simp) | exact nJ (by simp) | exact eD (by simp[Prod.ext_iff])) (by simp only[eX,bj];rfl)
theorem Ki:AL nE:=by
 intro x y hx hy
 unfold nE
 try simp only[eE,aliasOf0]
 repeat' split
 all_goals simp_all[Prod.ext_iff]
theorem Hr:AL oU:=fun xs ys hx hy=>eqL (f:=iN xs ys) xs ys (by have:=(aL hx).1;omega) (fun i h h'=>by
 simp only[iN,bz h,if_true,ax h,ax h',aliasOf0,eE,Ki xs[i] ys[i] ((aL hx).2 _ (List.getElem_mem h)) ((aL hy).2 _ (List.getElem_mem h')),af (show i<9223372036854775807 by have:=(aL hx).1;omega)]
 first | exact eD (by simp) | exact nJ (by simp) | exact eD (by simp[Prod.ext_iff])) (by simp only[iN,bj];rfl)
theorem Nq:AL pW:=by
 intro x y hx hy
 unfold pW
 try simp only[eE,aliasOf0,Hr x y hx hy]
 repeat' split
 all_goals simp_all[Prod.ext_iff]
theorem yx:AL gG:=by
 intro x y hx hy
 unfold gG
 try simp only[eE,aliasOf0,Nq x.2.1 y.2.1 hx.2.1 hy.2.1]
 repeat' split
 all_goals simp_all[Prod.ext_iff]
theorem xw:AL jk:=fun xs ys hx hy=>eqL (f:=dR xs ys) xs ys (by have:=(aL hx).1;omega) (fun i h h'=>by
 simp only[dR,bz h,if_true,ax h,ax h',aliasOf0,eE,yx xs[i] ys[i] ((aL hx).2 _ (List.getElem_mem h)) ((aL hy).2 _ (List.getElem_mem h')),af (show i<9223372036854775807 by have:=(aL hx).1;omega)]
 first | exact eD (by simp) | exact nJ (by simp) | exact eD (by simp[Prod.ext_iff])) (by simp only[dR,bj];rfl)
theorem CP:AL jM:=by
 intro x y hx hy
 unfold jM
 try simp only[eE,aliasOf0,yw x.1 y.1 hx.1 hy.1,xw x.2 y.2 hx.2 hy.2]
 repeat' split
 all_goals simp_all[Prod.ext_iff]
theorem yy:AL gH:=by
 intro x y hx hy
 unfold gH
 try simp only[eE,aliasOf0]
 repeat' split
 all_goals simp_all[Prod.ext_iff]
theorem xx:AL jl:=fun xs ys hx hy=>eqL (f:=dS xs ys) xs ys (by have:=(aL hx).1;omega) (fun i h h'=>by
 simp only[dS,bz h,if_true,ax h,ax h',aliasOf0,eE,yy xs[i] ys[i] ((aL hx).2 _ (List.getElem_mem h)) ((aL hy).2 _ (List.getElem_mem h')),af (show i<9223372036854775807 by have:=(aL hx).1;omega)]
 first | exact eD (by simp) | exact nJ (by simp) | exact eD (by simp[Prod.ext_iff])) (by simp only[dS,bj];rfl)
theorem Hs:AL lN:=by
 intro x y hx hy
 unfold lN
 try simp only[eE,aliasOf0,El x.1 y.1 hx.1 hy.1,CP x.2.1 y.2.1 hx.2.1 hy.2.1,xx x.2.2.1 y.2.2.1 hx.2.2.1 hy.2.2.1]
 repeat' split
 all_goals simp_all[Prod.ext_iff]
end D
namespace D
open Go.RowKit
theorem cy {R S:Type} {f:S->Option (Out R S)} (Inv:Nat->S->Prop) (Q:Out R S->Prop) (N:Nat)
  (h: ∀i s,i<=N->Inv i s->(i<N/\ ∃s',f s=some (.nxt s')/\Inv (i+1) s')\/ ∃o,f s=some o/\(∀s',o≠ .nxt s')/\Q o) {s:S} (h0:Inv 0 s) (hN:N<aS): ∃o,aq f aS s=some o/\Q o:=by
 have key: ∀(k i:Nat) (s:S),i<=N->N<i+k->Inv i s-> ∃o,aq f k s=some o/\Q o:=by
  intro k
  induction k with
  | zero=>intro i s h1 h2;omega
  | succ k ih =>
   intro i s h1 h2 hI
   rcases h i s h1 hI with ⟨hi,s',e,hI'⟩ | ⟨o,e,hn,hq⟩
   ·obtain ⟨o,e',hq⟩:=ih (i+1) s' (by omega) (by omega) hI'
    exact ⟨o,by rw[aq,e];exact e',hq⟩
   ·refine ⟨o,?_,hq⟩
    rw[aq,e]
    cases o with
    | nxt s'=>exact absurd rfl (hn s')
    | brk s'=>rfl
    | ret r=>rfl
 exact key aS 0 s (by omega) (by omega) h0
theorem ln {R S:Type} {f:S->Option (Out R S)} (Inv:Nat->S->Prop) (N:Nat) (h: ∀i s,i<N->Inv i s-> ∃s',f s=some (.nxt s')/\Inv (i+1) s') (he: ∀s,Inv N s->f s=some (.brk s)) {s:S} (h0:Inv 0 s) (hN:N<aS): ∃s',aq f aS s=some (.brk s')/\Inv N s':=by
 obtain ⟨o,e,s',rfl,h⟩:=cy (f:=f) Inv (fun o=> ∃s',o= .brk s'/\Inv N s') N (fun i s hi hI=>by
  by_cases h1:i<N
  ·exact .inl ⟨h1,h i s h1 hI⟩
  ·obtain rfl:i=N:=by omega
   exact .inr ⟨_,he s hI,(fun s' e=>by cases e),s,rfl,hI⟩) h0 hN
 exact ⟨s',e,h⟩
theorem br {R S:Type} {f:S->Option (Out R S)} (st:Nat->S) (N:Nat) (h: ∀i,i<N->f (st i)=some (.nxt (st (i+1)))) (he:f (st N)=some (.brk (st N))) (hN:N<aS):aq f aS (st 0)=some (.brk (st N)):=CM st N h he hN
theorem rm {k:Nat} (h:k<=9223372036854775807):k<aS:=fO k h
theorem mT {i:Nat} (h:i<=9223372036854775807):IntKind.i64.wrap ((i:Int) - 1)=(i:Int) - 1:=dI (by omega) (by omega)
theorem aD {α:Type} {b:Nat} {xs ys:List α} (h:(xs.length+ys.length)*b<=140737488355328):cS b xs ys=some (xs++ys):=by unfold cS;rw[if_pos h]
theorem bX {R S T:Type} {x:Option (Out R S)} {r:R} {kr:R->Option T} {k:S->Option T} (h:x=some (.ret r)):aH x kr k=kr r:=by rw[h];rfl
theorem au {R S T:Type} {x:Option (Out R S)} {s:S} {kr:R->Option T} {k:S->Option T} (h:x=some (.brk s)):aH x kr k=k s:=by rw[h];rfl
def nth {α:Type} [Inhabited α] (xs:List α) (i:Int):α:=xs.getD i.toNat default
section
variable {α:Type} [Inhabited α] {xs ys:List α}
theorem aA {i:Int} (h0:0<=i) (h1:i<xs.length):aK xs i=some (nth xs i):=by
 unfold aK nth
 rw[if_pos h0]
 have:i.toNat<xs.length:=by omega
 simp[List.getD_eq_getElem?_getD,this]
theorem bM {i:Nat} (h:i<xs.length):nth xs (i:Int)=xs[i]:=by simp[nth,List.getD_eq_getElem?_getD,h]
theorem iU {i:Int} (h0:0<=i) (h1:i<xs.length):nth xs i∈xs:=by
 have:i.toNat<xs.length:=by omega
 have e:nth xs i=xs[i.toNat]:=by simp[nth,List.getD_eq_getElem?_getD,this]
 rw[e];exact List.getElem_mem this
theorem fP {i:Int} (h0:0<=i) (h1:i<xs.length):nth (xs++ys) i=nth xs i:=by
 have:i.toNat<xs.length:=by omega
 simp[nth,List.getD_eq_getElem?_getD,List.getElem?_append_left this]
theorem Em {x:α} (h:x∈xs): ∃i:Nat,i<xs.length/\nth xs (i:Int)=x:=by
 obtain ⟨i,hi,rfl⟩:=List.getElem_of_mem h
 exact ⟨i,hi,bM hi⟩
theorem CQ {i:Int} {x:α} (h0:0<=i) (h1:i<xs.length):nth (xs.set i.toNat x) i=x:=by
 have:i.toNat<xs.length:=by omega
 simp[nth,List.getD_eq_getElem?_getD,this]
theorem Q2 (h:xs.length=ys.length) (k: ∀i:Nat,i<xs.length->nth xs (i:Int)=nth ys (i:Int)):xs=ys:=by
 refine List.ext_getElem h fun i h1 h2=>?_
 have:=k i h1
 rwa [bM h1,bM h2] at this
end
section
variable {κ:Type} [DecidableEq κ]
def nbL (l:List κ):Option κ->List κ
 | none=>l
 | some x=>if x∈l then l else l++ [x]
def nbI (l:List κ):Option κ->Int
 | none=> -1
 | some x=>(l.idxOf x:Int)
def nbS (l:List κ) (os:List (Option κ)):List κ:=os.foldl nbL l
def nbR (l:List κ):List (Option κ)->List Int
 | [] =>[]
 | o::os=>nbI l o::nbR (nbL l o) os
theorem sp (l:List κ) (os:List (Option κ)) (o:Option κ):nbS l (os++ [o])=nbL (nbS l os) o:=by simp[nbS]
theorem pY: ∀(l:List κ) (os:List (Option κ)) (o:Option κ),nbR l (os++ [o])=nbR l os++ [nbI (nbS l os) o]
 | l,[],o=>rfl
 | l,p::os,o=>by
  show nbI l p::nbR (nbL l p) (os++ [o])=nbI l p::nbR (nbL l p) os++ [nbI (nbS (nbL l p) os) o]
  rw[pY (nbL l p) os o];rfl
theorem du: ∀(l:List κ) (os:List (Option κ)),(nbR l os).length=os.length
 | l,[] =>rfl
 | l,o::os=>by show (nbR (nbL l o) os).length+1=_;rw[du];rfl
theorem Ht (l : List κ) (o : Option κ) : l <+: nbL l o := by
  cases o with
  | none => exact List.prefix_refl l
  | some x => unfold nbL; simp only; split
              · exact List.prefix_refl l
              · exact List.prefix_append l [x]
theorem jr: ∀(l:List κ) (os:List (Option κ)),l <+:nbS l os
 | l,[] =>List.prefix_refl l
 | l,o::os=>(Ht l o).trans (jr (nbL l o) os)
theorem Kj {l : List κ} {o : Option κ} (h : l.Nodup) : (nbL l o).Nodup := by
  cases o with
  | none => exact h
  | some x => unfold nbL; simp only; split
              · exact h
              · rename_i hx; exact List.nodup_append.2 ⟨h, by simp, by rintro a ha b hb rfl; simp at hb; exact hx (hb ▸ ha)⟩
theorem px: ∀ {l:List κ} {os:List (Option κ)},l.Nodup->(nbS l os).Nodup
 | l,[],h=>h
 | l,o::os,h=>px (l:=nbL l o) (os:=os) (Kj h)
theorem Kk {l : List κ} {o : Option κ} {x : κ} : x ∈ nbL l o ↔ x ∈ l \/ o = some x := by
  cases o with
  | none => simp [nbL]
  | some y => unfold nbL; simp only; split
              · rename_i h; constructor
                · exact .inl
                · rintro (h' | h')
                  · exact h'
                  · simp at h'; exact h' ▸ h
              · simp; exact or_congr Iff.rfl eq_comm
theorem tG: ∀ {l:List κ} {os:List (Option κ)} {x:κ},x∈nbS l os↔x∈l\/some x∈os
 | l,[],x=>by simp[nbS]
 | l,o::os,x=>by
  show x∈nbS (nbL l o) os↔_
  rw[tG,Kk,List.mem_cons,or_assoc]
  exact or_congr Iff.rfl (or_congr eq_comm Iff.rfl)
theorem ke {l:List κ} {x:κ} (h:x∈l):nbL l (some x)=l:=by simp[nbL,h]
theorem jt {l:List κ} {x:κ} (h:x∉l):nbL l (some x)=l++ [x]:=by simp[nbL,h]
theorem mU {l:List κ} {x:κ} (h:x∉l):l.idxOf x=l.length:=List.idxOf_eq_length h
def bfS (nx:κ->List (Option κ)) (first:κ):Nat->List κ
 | 0=>[first]
 | i+1=>match (bfS nx first i)[i]? with
  | some x=>nbS (bfS nx first i) (nx x)
  | none=>bfS nx first i
def bfR (nx:κ->List (Option κ)) (first:κ):Nat->List (List Int)
 | 0=>[]
 | i+1=>bfR nx first i++(match (bfS nx first i)[i]? with
  | some x=>[nbR (bfS nx first i) (nx x)]
  | none=>[])
variable {nx:κ->List (Option κ)} {first:κ}
theorem AP {i:Nat} (h:i<(bfS nx first i).length):bfS nx first (i+1)=nbS (bfS nx first i) (nx ((bfS nx first i)[i])):=by
 rw[bfS,List.getElem?_eq_getElem h]
theorem sq {i:Nat} (h:i<(bfS nx first i).length):bfR nx first (i+1)=bfR nx first i++ [nbR (bfS nx first i) (nx ((bfS nx first i)[i]))]:=by
 rw[bfR,List.getElem?_eq_getElem h]
theorem bp (i:Nat):bfS nx first i <+:bfS nx first (i+1):=by
 rw[bfS]
 split
 ·exact jr _ _
 ·exact List.prefix_refl _
theorem tH {i j:Nat} (h:i<=j):bfS nx first i <+:bfS nx first j:=by
 induction h with
 | refl=>exact List.prefix_refl _
 | step _ ih=>exact ih.trans (bp _)
theorem lp: ∀i,(bfS nx first i).Nodup
 | 0=>by simp[bfS]
 | i+1=>by
  rw[bfS]
  split
  ·exact px (lp i)
  ·exact lp i
theorem iV {G:κ->Prop} (h0:G first) (h: ∀x,G x-> ∀y,some y∈nx x->G y): ∀i,∀x∈bfS nx first i,G x
 | 0=>by simp[bfS];exact h0
 | i+1=>by
  rw[bfS]
  split
  ·rename_i y hy
   intro x hx
   rcases tG.1 hx with hx | hx
   ·exact iV h0 h i x hx
   ·exact h y (iV h0 h i y (List.mem_of_getElem? hy)) x hx
  ·exact iV h0 h i
theorem CR (i:Nat):(bfS nx first i)[0]? =some first:=by
 obtain ⟨t,ht⟩:=tH (nx:=nx) (first:=first) (Nat.zero_le i)
 rw[<-ht];rfl
theorem hH: ∀ {i:Nat},(∀j,j<i->j<(bfS nx first j).length)->(bfR nx first i).length=i
 | 0,_=>rfl
 | i+1,h=>by rw[sq (h i (by omega)),aliasOf5,hH fun j hj=>h j (by omega)];rfl
def bfE (nx:κ->List (Option κ)) (first:κ) (N:Nat):Prop:=N=(bfS nx first N).length/\ ∀i,i<N->i<(bfS nx first i).length
theorem OP {B:Nat} (hB: ∀i,(bfS nx first i).length<=B): ∃N,N<=B/\bfE nx first N:=by
 have key: ∀m i,i+m=B->(∀j,j<i->j<(bfS nx first j).length)-> ∃N,N<=B/\bfE nx first N:=by
  intro m
  induction m with
  | zero =>
   intro i hi hj
   have h1:=hB i
   have h2:i<=(bfS nx first i).length:=by
    cases i with
    | zero=>omega
    | succ i =>
     have:=hj i (by omega)
     have hp:=(bp (nx:=nx) (first:=first) i).length_le
     omega
   exact ⟨i,by omega,by omega,hj⟩
  | succ m ih =>
   intro i hi hj
   by_cases h:i<(bfS nx first i).length
   ·exact ih (i+1) (by omega) fun j hj'=>by
     by_cases e:j=i
     ·subst e;exact h
     ·exact hj j (by omega)
   ·have h2:i<=(bfS nx first i).length:=by
     cases i with
     | zero=>omega
     | succ i =>
      have:=hj i (by omega)
      have hp:=(bp (nx:=nx) (first:=first) i).length_le
      omega
    exact ⟨i,by omega,by omega,hj⟩
 exact key B 0 (by omega) (by omega)
theorem Nr {N M:Nat} (h:bfE nx first N) (k:bfE nx first M):N=M:=by
 rcases Nat.lt_trichotomy N M with e | e | e
 ·have:=k.2 N e;have:=h.1;omega
 ·exact e
 ·have:=h.2 M e;have:=k.1;omega
end
end D
namespace D
abbrev Pr:=Int×Int
def ltP (a b:Pr):Prop:=a.1<b.1\/a.1=b.1/\a.2<b.2
instance (a b:Pr):Decidable (ltP a b):=inferInstanceAs (Decidable (_\/_))
end D
namespace D
open Go.RowKit
section
variable {l m:List Pr} {p:Pr}
end
end D
namespace D
open Go.RowKit
end D
set_option synthInstance.maxSize 20000
set_option synthInstance.maxHeartbeats 2000000
namespace D
open Go.RowKit
end D
set_option synthInstance.maxSize 20000
set_option synthInstance.maxHeartbeats 2000000
namespace D
open Go.RowKit
def mkB (l:List UInt8):ByteArray:=⟨l.toArray⟩
theorem Q3 (a b:List UInt8):mkB a++mkB b=mkB (a++b):=ByteArray.ext (by simp[mkB])
theorem bh (a:List UInt8):(mkB a).size=a.length:=by simp[mkB,ByteArray.size]
theorem dF (a:List UInt8):(mkB a).data.toList=a:=by simp[mkB]
theorem AQ (a b:List UInt8) (h:a.length+b.length<=9223372036854775807):j5 (mkB a) (mkB b)=some (mkB (a++b)):=by
 unfold j5 chk
 rw[bh,bh,if_pos h,aliasOf0,Q3]
theorem Vc: ∀d:Fin 10,IntKind.u8.wrap (IntKind.i64.wrap (48+(d.val:Int)))=48+(d.val:Int):=by decide
theorem Vd {d:Nat} (h:d<10):tW [IntKind.u8.wrap (IntKind.i64.wrap (48+(d:Int)))] =mkB [UInt8.ofNat (48+d)]:=by
 rw[Vc ⟨d,h⟩]
 show ByteArray.empty.push (UInt8.ofNat (48+(d:Int)).toNat)=_
 rw[show (48+(d:Int)).toNat=48+d by omega];rfl
theorem Ve (m:Int):(if decide ((Int.tmod m 10)<0) then (some (IntKind.i64.wrap (-(Int.tmod m 10)))) else (some (Int.tmod m 10)):Option Int)=some ((m.natAbs % 10:Nat):Int):=by
 by_cases h:m<0
 ·obtain ⟨k,rfl⟩: ∃k:Nat,m= -(k:Int):=⟨m.natAbs,by omega⟩
  have e:Int.tmod (-(k:Int)) 10= -((k % 10:Nat):Int):=by rw[Int.neg_tmod];rfl
  rw[e,Int.natAbs_neg,Int.natAbs_natCast]
  by_cases h0:k % 10=0
  ·rw[h0];rfl
  ·rw[if_pos (decide_eq_true (by omega)),Int.neg_neg,dI (by omega) (by omega)]
 ·obtain ⟨k,rfl⟩: ∃k:Nat,m=(k:Int):=⟨m.natAbs,by omega⟩
  have e:Int.tmod (k:Int) 10=((k % 10:Nat):Int):=rfl
  rw[e,if_neg (by simp;omega),Int.natAbs_natCast]
theorem UY {m:Int} (h:I64 m):Ln m 10=m.tdiv 10/\(m.tdiv 10).natAbs=m.natAbs / 10:=by
 have k:(m.tdiv 10).natAbs=m.natAbs / 10:=Int.natAbs_tdiv m 10
 unfold I64 at h
 refine ⟨?_,k⟩
 unfold Ln
 exact dI (by omega) (by omega)
theorem Q4 {m:Int} {out:List UInt8} (h0:m≠0) (h:I64 m) (hl:out.length<=1000):cL (m,mkB out)=some (.nxt (m.tdiv 10,mkB (UInt8.ofNat (48+m.natAbs % 10)::out))):=by
 unfold cL
 simp only[]
 rw[if_pos (by simpa using h0),Ve,aliasOf0,Vd (Nat.mod_lt _ (by omega)),AQ _ _ (by simp;omega),aliasOf0,(UY h).1];rfl
theorem OQ (u:Nat):1<=Lib.nDigits u:=by
 by_cases h:u<10
 ·rw[Lib.nDigits_small h];omega
 ·rw[Lib.nDigits_big h];omega
theorem Kl: ∀(k:Nat) (m:Int) (out:List UInt8),m≠0->I64 m->Lib.nDigits m.natAbs<=k->out.length+Lib.nDigits m.natAbs<=100->aq cL (k+1) (m,mkB out)=some (.brk (0,mkB (Lib.decDigits m.natAbs++out)))
 | 0,m,out,_,_,h,_=>by have:=OQ m.natAbs;omega
 | k+1,m,out,h0,hm,h,hl=>by
  rw[aq,Q4 h0 hm (by omega)]
  show aq cL (k+1) (m.tdiv 10,_)=_
  have hq:=(UY hm).2
  by_cases h1:m.natAbs<10
  ·have hz:m.tdiv 10=0:=by
    have:(m.tdiv 10).natAbs=0:=by rw[hq];omega
    omega
   rw[hz,aq]
   have:cL (0,mkB (UInt8.ofNat (48+m.natAbs % 10)::out))=some (.brk (0,mkB (UInt8.ofNat (48+m.natAbs % 10)::out))):=rfl
   rw[this,Lib.decDigits_one h1,Nat.mod_eq_of_lt h1];rfl
  ·have hz:m.tdiv 10≠0:=by
    intro e
    rw[e] at hq
    have:m.natAbs / 10=0:=by simpa using hq.symm
    omega
   have hn:=Lib.nDigits_big h1
   have hi:I64 (m.tdiv 10):=by unfold I64 at hm⊢;omega
   rw[Kl k _ _ hz hi (by rw[hq];omega) (by rw[hq,aliasOf6];omega),hq]
   have:Lib.decDigits m.natAbs=Lib.decDigits (m.natAbs / 10)++ [UInt8.ofNat (48+m.natAbs % 10)]:=by rw[Lib.decDigits,dif_neg h1]
   rw[this,aliasOf4];rfl
theorem oo {n:Int} (h:I64 n):(Lib.itoa n).length<=21:=Lib.itoa_length_le n h.1 h.2
theorem Uf {n:Int} (h:I64 n):Lib.nDigits n.natAbs<=21:=by
 have:=oo h
 unfold Lib.itoa at this
 split at this
 ·rw[aliasOf6,Lib.decDigits_length] at this;omega
 ·rw[Lib.decDigits_length] at this
  rw[show n.natAbs=n.toNat by omega];exact this
theorem pZ {n:Int} (h:I64 n):bD n=some (mkB (Lib.itoa n)):=by
 unfold bD
 by_cases h0:n=0
 ·subst h0
  rw[if_pos (by rfl:((0:Int)==0)=true)]
  have:Lib.itoa 0= [48]:=by unfold Lib.itoa;rw[if_neg (by decide)];exact Lib.decDigits_one (by decide)
  rw[this];rfl
 rw[if_neg (by simpa using h0)]
 have hn:=Uf h
 have hf:=fO 100 (by omega)
 obtain ⟨k,hk⟩: ∃k,aS=k+1:=⟨aS - 1,by omega⟩
 have hL:aq cL aS (n,(⟨#[]⟩:ByteArray))=some (.brk (0,mkB (Lib.decDigits n.natAbs++ []))):=by
  rw[hk];exact Kl k n [] h0 h (by omega) (by simp;omega)
 rw[au hL,List.append_nil]
 have hd:(Lib.decDigits n.natAbs).length<=21:=by rw[Lib.decDigits_length];exact hn
 unfold Lib.itoa
 by_cases h1:n<0
 ·rw[if_pos (decide_eq_true h1),if_pos h1]
  show (j5 (mkB [45]) _).bind _=_
  rw[AQ _ _ (by simp;omega)];rfl
 ·rw[if_neg (by simpa using h1),if_neg h1,show n.natAbs=n.toNat by omega]
theorem su {n:Int} (h:I64 n):cx n=some (mkB (Lib.itoa n)):=by
 unfold cx j8 R.Ng chk
 rw[if_pos (show -9223372036854775808<=n/\n<=9223372036854775807 from h)];rfl
theorem Km (xs:List (List UInt8)) (y sep:List UInt8):Lib.join (xs++ [y]) sep=if xs= [] then y else Lib.join xs sep++sep++y:=by
 cases xs with
 | nil=>rw[if_pos rfl];exact Lib.join_one _ _
 | cons x r =>
  rw[if_neg (by simp),List.cons_append,Lib.join_cons,Lib.join_cons]
  simp[Lib.joinTail,aliasOf4]
end D
namespace D
open Go.RowKit
theorem xy: ∀(a:List UInt8) (acc:Nat) (b:List UInt8),Lib.decFrom acc (a++b)=(Lib.decFrom acc a).bind fun m=>Lib.decFrom m b
 | [],acc,b=>rfl
 | x::a,acc,b=>by
  rw[List.cons_append,Lib.decFrom,Lib.decFrom]
  cases Lib.digitVal x with
  | none=>rfl
  | some d=>exact xy a _ b
theorem Kn {d:Nat} (h:d<10):Lib.digitVal (UInt8.ofNat (48+d))=some d:=by
 have e:(UInt8.ofNat (48+d)).toNat=48+d:=by simp;omega
 unfold Lib.digitVal
 rw[e,if_pos ⟨by omega,by omega⟩]
 congr 1;omega
theorem vt {u:Nat} (h: ¬u<10):Lib.decDigits u=Lib.decDigits (u / 10)++ [UInt8.ofNat (48+u % 10)]:=by rw[Lib.decDigits,dif_neg h]
theorem En (u:Nat):Lib.decFrom 0 (Lib.decDigits u)=some u:=by
 induction u using Nat.strongRecOn with
 | _ u ih =>
  by_cases h:u<10
  ·rw[Lib.decDigits_one h,Lib.decFrom,Kn h]
   simp[Lib.decFrom]
  ·rw[vt h,xy,ih (u / 10) (by omega),aliasOf0,Lib.decFrom,Kn (Nat.mod_lt _ (by omega))]
   simp only[Lib.decFrom]
   congr 1;omega
theorem SE (u:Nat):Lib.decDigits u≠ []:=fun h=>by
 have:=Lib.decDigits_length u
 rw[h] at this
 have:=OQ u
 simp at *;omega
theorem zy (u:Nat):Lib.decNat (Lib.decDigits u)=some u:=by
 unfold Lib.decNat
 rw[if_neg (by simpa using SE u),En]
theorem FQ (u:Nat): ∃d r,d<10/\Lib.decDigits u=UInt8.ofNat (48+d)::r:=by
 induction u using Nat.strongRecOn with
 | _ u ih =>
  by_cases h:u<10
  ·exact ⟨u,[],h,Lib.decDigits_one h⟩
  ·obtain ⟨d,r,hd,e⟩:=ih (u / 10) (by omega)
   exact ⟨d,_,hd,by rw[vt h,e];rfl⟩
theorem Eo {d:Nat} (h:d<10):(UInt8.ofNat (48+d)==45)=false/\(UInt8.ofNat (48+d)==43)=false:=by
 have: ∀d:Fin 10,(UInt8.ofNat (48+d.val)==45)=false/\(UInt8.ofNat (48+d.val)==43)=false:=by decide
 exact this ⟨d,h⟩
theorem Ko (n:Int):Lib.atoi (Lib.itoa n)=some n:=by
 unfold Lib.itoa
 by_cases h:n<0
 ·rw[if_pos h]
  show (Lib.decNat (Lib.decDigits n.natAbs)).map (fun (m:Nat)=> -(m:Int))=_
  rw[zy]
  simp;omega
 ·rw[if_neg h]
  obtain ⟨d,r,hd,e⟩:=FQ n.toNat
  have k:=zy n.toNat
  rw[e] at k⊢
  show (if (UInt8.ofNat (48+d)==45)=true then _ else if (UInt8.ofNat (48+d)==43)=true then _ else _)=_
  rw[if_neg (by rw[(Eo hd).1];decide),if_neg (by rw[(Eo hd).2];decide),k]
  simp;omega
def dst (p:Nat×Nat) (b:UInt8):Nat×Nat:=if 48<=b.toNat/\b.toNat<=57 then (p.1*10+(b.toNat - 48),p.2+1) else p
theorem Kp {d:Nat} (h:d<10) (p:Nat×Nat):dst p (UInt8.ofNat (48+d))=(p.1*10+d,p.2+1):=by
 have e:(UInt8.ofNat (48+d)).toNat=48+d:=by simp;omega
 unfold dst
 rw[e,if_pos ⟨by omega,by omega⟩,show 48+d - 48=d by omega]
theorem Kq (u:Nat):(Lib.decDigits u).foldl dst (0,0)=(u,Lib.nDigits u):=by
 induction u using Nat.strongRecOn with
 | _ u ih =>
  by_cases h:u<10
  ·rw[Lib.decDigits_one h,List.foldl_cons,List.foldl_nil,Kp h,Lib.nDigits_small h];simp
  ·rw[vt h,List.foldl_append,ih (u / 10) (by omega),List.foldl_cons,List.foldl_nil,Kp (Nat.mod_lt _ (by omega)),Lib.nDigits_big h]
   congr 1
   show u / 10*10+u % 10=u
   omega
theorem Ns (n:Int):(Lib.itoa n).foldl dst (0,0)=(n.natAbs,Lib.nDigits n.natAbs):=by
 unfold Lib.itoa
 split
 ·rw[List.foldl_cons,show dst (0,0) 45=(0,0) from rfl,Kq]
 ·rw[Kq,show n.toNat=n.natAbs by omega]
theorem OR: ∀(l:List UInt8) (p:Nat×Nat),p.1<10 ^ p.2->(l.foldl dst p).1<10 ^ (l.foldl dst p).2
 | [],p,h=>h
 | b::l,p,h=>by
  rw[List.foldl_cons]
  refine OR l _ ?_
  unfold dst
  split
  ·rename_i k
   show p.1*10+(b.toNat - 48)<10 ^ (p.2+1)
   rw[Nat.pow_succ];omega
  ·exact h
theorem OS: ∀(l:List UInt8) (p:Nat×Nat),(l.foldl dst p).2<=p.2+l.length
 | [],p=>by simp
 | b::l,p=>by
  rw[List.foldl_cons]
  have:=OS l (dst p b)
  have h:(dst p b).2<=p.2+1:=by unfold dst;split <;> simp
  rw[aliasOf6];omega
end D
namespace D
open Go.RowKit
theorem SF: ∀(k u:Nat),1<=k->u<10 ^ k->Lib.nDigits u<=k
 | 0,u,h,_=>by omega
 | k+1,u,_,h=>by
  by_cases h1:u<10
  ·rw[Lib.nDigits_small h1];omega
  ·rw[Lib.nDigits_big h1]
   rw[Nat.pow_succ] at h
   have hk:1<=k:=by
    rcases k with _ | k
    ·simp at h;omega
    ·omega
   have:=SF k (u / 10) hk (by omega)
   omega
theorem u8W: ∀d:Fin 10,IntKind.i64.wrap (IntKind.u8.wrap (d.val:Int))=(d.val:Int):=by decide
theorem vu {s:ByteArray} {i:Nat} (h:i<s.size):gN s (i:Int)=some (((s.data.toList[i]'(by simpa using h)).toNat:Nat):Int):=by
 unfold gN chk
 rw[if_pos ⟨by omega,by omega⟩]
 simp only[aliasOf0]
 rw[show (i:Int).toNat=i by omega,List.getD_eq_getElem?_getD,List.getElem?_eq_getElem (by simpa using h)]
 rfl
def dtk (s:ByteArray) (i:Nat):Nat×Nat:=(s.data.toList.take i).foldl dst (0,0)
theorem Kr (s:ByteArray) (i:Nat):(dtk s i).1<10 ^ (dtk s i).2/\(dtk s i).2<=i:=by
 refine ⟨OR _ _ (by decide),?_⟩
 have:=OS (s.data.toList.take i) (0,0)
 rw[aliasOf12] at this
 unfold dtk
 omega
theorem Q5 (s:ByteArray):aq (fI s) aS (0,0,0)=some (.brk (((dtk s (min s.size 11)).1:Int),((dtk s (min s.size 11)).2:Int),((min s.size 11:Nat):Int))):=by
 refine br (f:=fI s) (fun i=>(((dtk s i).1:Int),((dtk s i).2:Int),(i:Int))) (min s.size 11) (fun i hi=>?_) ?_ (fO _ (by omega))
 ·have h1:i<s.size:=by omega
  have hl:i<s.data.toList.length:=by simpa using h1
  have hd:dtk s (i+1)=dst (dtk s i) (s.data.toList[i]):=by
   unfold dtk
   rw[List.take_succ_eq_append_getElem hl,List.foldl_append];rfl
  obtain ⟨b1,b2⟩:=Kr s i
  have b3:10 ^ (dtk s i).2<=10 ^ 10:=Nat.pow_le_pow_right (by omega) (by omega)
  unfold fI
  simp only[]
  rw[if_pos (decide_eq_true (by omega)),if_pos (decide_eq_true (by omega)),vu h1,hd]
  generalize s.data.toList[i] =b
  generalize dtk s i=p at *
  simp only[aliasOf0]
  unfold dst
  by_cases c1:48<=b.toNat
  ·rw[if_pos (decide_eq_true (by omega))]
   by_cases c2:b.toNat<=57
   ·rw[if_pos (decide_eq_true (by omega)),if_pos ⟨c1,c2⟩]
    obtain ⟨d,hd,e⟩: ∃d,d<10/\b.toNat=48+d:=⟨b.toNat - 48,by omega,by omega⟩
    rw[e,show ((48+d:Nat):Int) - 48=(d:Int) by omega,u8W ⟨d,hd⟩]
    simp only[aliasOf0]
    rw[dI (n:=(p.1:Int)*10) (by omega) (by omega),dI (by show _<=_+(d:Int);omega) (by show _+(d:Int)<=_;omega),af (by omega),af (by omega)]
    congr 4
    show (p.1:Int)*10+(d:Int)=((p.1*10+(48+d - 48):Nat):Int)
    omega
   ·rw[if_neg (by simp;omega),if_neg (by omega)]
    simp only[aliasOf0]
    rw[af (by omega)]
  ·rw[if_neg (by simp;omega),if_neg (by omega)]
   simp only[aliasOf0]
   rw[af (by omega)]
 ·unfold fI
  simp only[]
  by_cases h:s.size<=11
  ·rw[Nat.min_eq_left h,if_neg (by simp)]
  ·rw[Nat.min_eq_right (by omega),if_pos (decide_eq_true (by omega)),if_neg (by simp)]
def sgn (s:ByteArray):Int:=if s.data.toList.head? =some 45 then -((dtk s (min s.size 11)).1:Int) else ((dtk s (min s.size 11)).1:Int)
theorem OT (s:ByteArray):(sgn s).natAbs<10 ^ (dtk s (min s.size 11)).2/\(sgn s).natAbs<10 ^ 11:=by
 obtain ⟨b1,b2⟩:=Kr s (min s.size 11)
 have b3:10 ^ (dtk s (min s.size 11)).2<=10 ^ 11:=Nat.pow_le_pow_right (by omega) (by omega)
 have:(sgn s).natAbs=(dtk s (min s.size 11)).1:=by unfold sgn;split <;> omega
 omega
theorem OU (s:ByteArray):eH s=if 9<(dtk s (min s.size 11)).2\/10<s.size then some (0,false) else if mkB (Lib.itoa (sgn s))=s then some (sgn s,true) else some (0,false):=by
 have hs:=(OT s).2
 have hi:I64 (sgn s):=by unfold I64;omega
 obtain ⟨b1,b2⟩:=Kr s (min s.size 11)
 have b3:10 ^ (dtk s (min s.size 11)).2<=10 ^ 11:=Nat.pow_le_pow_right (by omega) (by omega)
 have fin: ∀z:Int,z=sgn s->(if decide (((dtk s (min s.size 11)).2:Int)>9) then (some (0,false)) else (if decide (((s.size:Nat):Int)>10) then (some (0,false)) else ((bD z).bind fun r10=>if r10 !=s then (some (0,false)) else (some (z,true)))):Option (Int×Bool))=if 9<(dtk s (min s.size 11)).2\/10<s.size then some (0,false) else if mkB (Lib.itoa (sgn s))=s then some (sgn s,true) else some (0,false):=by
  rintro z rfl
  by_cases c1:9<(dtk s (min s.size 11)).2
  ·rw[if_pos (decide_eq_true (by omega)),if_pos (Or.inl c1)]
  ·rw[if_neg (by simp;omega)]
   by_cases c2:10<s.size
   ·rw[if_pos (decide_eq_true (by omega)),if_pos (Or.inr c2)]
   ·rw[if_neg (by simp;omega),if_neg (by omega),pZ hi,aliasOf0]
    by_cases c3:mkB (Lib.itoa (sgn s))=s
    ·rw[if_pos c3,if_neg (by simp[c3])]
    ·rw[if_neg c3,if_pos (by simpa using c3)]
 unfold eH
 rw[au (Q5 s)]
 simp only[]
 by_cases h0:0<s.size
 ·rw[if_pos (decide_eq_true (by omega))]
  have hl:0<s.data.toList.length:=by simpa using h0
  have e0:gN s 0=some (((s.data.toList[0]).toNat:Nat):Int):=vu (i:=0) h0
  have eh:s.data.toList.head? =some s.data.toList[0]:=by rw[List.head?_eq_getElem?,List.getElem?_eq_getElem hl]
  rw[e0,aliasOf0]
  by_cases c:s.data.toList[0] =45
  ·rw[if_pos (by rw[c];rfl),aliasOf0,dI (by omega) (by omega)]
   exact fin _ (by unfold sgn;rw[eh,if_pos (by rw[c])])
  ·have hn:(s.data.toList[0]).toNat≠45:=fun e=>c (UInt8.toNat_inj.1 e)
   rw[if_neg (fun e=>hn (by have:=eq_of_beq e;omega)),aliasOf0]
   exact fin _ (by unfold sgn;rw[eh,if_neg (by simpa using c)])
 ·rw[if_neg (by rw[decide_eq_true_eq];omega)]
  have he:s.data.toList.head? =none:=by
   have:s.data.toList= []:=List.eq_nil_of_length_eq_zero (by
    have:s.data.toList.length=s.size:=by simp
    omega)
   rw[this];rfl
  exact fin _ (by unfold sgn;rw[he,if_neg (by simp)])
theorem Nt {n:Int} (h: -999999999<=n/\n<=999999999):Lib.nDigits n.natAbs<=9/\(Lib.itoa n).length<=10:=by
 have k:Lib.nDigits n.natAbs<=9:=SF 9 _ (by omega) (by omega)
 refine ⟨k,?_⟩
 unfold Lib.itoa
 split
 ·rw[aliasOf6,Lib.decDigits_length];omega
 ·rw[Lib.decDigits_length,show n.toNat=n.natAbs by omega];omega
theorem Ks (n:Int):((Lib.itoa n).head? =some 45)↔n<0:=by
 unfold Lib.itoa
 split
 ·rename_i h;simp[h]
 ·rename_i h
  obtain ⟨d,r,hd,e⟩:=FQ n.toNat
  rw[e]
  have:=(Eo hd).1
  simp only[List.head?_cons,Option.some.injEq]
  constructor
  ·intro k;rw[k] at this;simp at this
  ·intro k;omega
theorem AR {n:Int} (h: -999999999<=n/\n<=999999999):eH (mkB (Lib.itoa n))=some (n,true)/\eI (mkB (Lib.itoa n))=some (n,true):=by
 obtain ⟨h9,h10⟩:=Nt h
 constructor
 ·have ed:dtk (mkB (Lib.itoa n)) (min (mkB (Lib.itoa n)).size 11)=(n.natAbs,Lib.nDigits n.natAbs):=by
   unfold dtk
   rw[dF,bh,Nat.min_eq_left (by omega),List.take_length,Ns]
  have es:sgn (mkB (Lib.itoa n))=n:=by
   unfold sgn
   rw[ed,dF]
   by_cases c:n<0
   ·rw[if_pos ((Ks n).2 c)];show -(n.natAbs:Int)=n;omega
   ·rw[if_neg fun k=>c ((Ks n).1 k)];show (n.natAbs:Int)=n;omega
  rw[OU,ed,es,bh,if_neg (by show¬(9<Lib.nDigits n.natAbs\/_);omega),if_pos rfl]
 ·unfold eI R.oQ
  rw[bh,dF,if_neg (by omega),Ko]
  show (if _ then _ else _)=_
  rw[if_pos ⟨rfl,h.1,h.2⟩]
theorem FR {s:ByteArray} (h: ¬ ∃n:Int,(-999999999<=n/\n<=999999999)/\s=mkB (Lib.itoa n)):eH s=some (0,false)/\eI s=some (0,false):=by
 constructor
 ·rw[OU]
  by_cases c:9<(dtk s (min s.size 11)).2\/10<s.size
  ·rw[if_pos c]
  ·rw[if_neg c,if_neg]
   intro e
   have b1:=(OT s).1
   have b3:10 ^ (dtk s (min s.size 11)).2<=10 ^ 9:=Nat.pow_le_pow_right (by omega) (by omega)
   exact h ⟨sgn s,by omega,e.symm⟩
 ·unfold eI R.oQ
  by_cases c:10<s.size
  ·rw[if_pos c]
  ·rw[if_neg c]
   cases ha:Lib.atoi s.data.toList with
   | none=>rfl
   | some n =>
    show (if _ then _ else _)=_
    rw[if_neg fun k=>h ⟨n,k.2,k.1.symm⟩]
theorem nK (s:ByteArray): ∃r:Int×Bool,eH s=some r/\eI s=some r/\((r.2=true/\(-999999999<=r.1/\r.1<=999999999)/\s=mkB (Lib.itoa r.1))\/r=(0,false)):=by
 by_cases h: ∃n:Int,(-999999999<=n/\n<=999999999)/\s=mkB (Lib.itoa n)
 ·obtain ⟨n,hn,rfl⟩:=h
  exact ⟨_,(AR hn).1,(AR hn).2,.inl ⟨rfl,hn,rfl⟩⟩
 ·exact ⟨_,(FR h).1,(FR h).2,.inr rfl⟩
end D
namespace D
open Go.RowKit
abbrev AutT:=Int×(List Bool)×(List (List Int))
structure VA (a:AutT) (n:Nat):Prop where
 len:a.2.1.length=n
 start:0<=a.1/\a.1<n
 nlen:a.2.2.length=n
 row: ∀r∈a.2.2,r.length=9
 ent: ∀r∈a.2.2,∀t∈r,-1<=t/\t<n
def mv (a:AutT) (s:Int) (k:Nat):Int:=nth (nth a.2.2 s) k
theorem HK (x l h:Int):bY x l h=some (decide (l<=x/\x<=h)):=by
 unfold bY
 by_cases c:l<=x
 ·simp[c]
 ·have: ¬l<=x/\True:=⟨c,trivial⟩
  simp[c]
theorem C7 (x l h:Int):bB x l h=some (decide (l<=x/\x<=h)):=by
 unfold bB
 by_cases c:l<=x
 ·simp[c]
 ·simp[c]
theorem scan {α R:Type} [Inhabited α] {f:Int->Option (Out R Int)} (xs:List α) (p:α->Prop) [DecidablePred p] (r:R) (hN:xs.length<=9223372036854775807)
  (h: ∀i:Nat,i<xs.length->f (i:Int)=some (if p (nth xs i) then .nxt ((i+1:Nat):Int) else .ret r)) (he:f (xs.length:Int)=some (.brk (xs.length:Int))) :
  (aq f aS 0=some (.brk (xs.length:Int))/\ ∀x∈xs,p x)\/(aq f aS 0=some (.ret r)/\ ¬ ∀x∈xs,p x):=by
 obtain ⟨o,e,hq⟩:=cy (f:=f) (fun i s=>s=(i:Int)/\ ∀j:Nat,j<i->p (nth xs j)) (fun o=>(o= .brk (xs.length:Int)/\ ∀x∈xs,p x)\/(o= .ret r/\ ¬ ∀x∈xs,p x)) xs.length (s:=0) (by
  rintro i s hi ⟨rfl,hp⟩
  by_cases hl:i<xs.length
  ·by_cases c:p (nth xs i)
   ·refine .inl ⟨hl,_,by rw[h i hl,if_pos c],rfl,fun j hj=>?_⟩
    by_cases e:j=i
    ·subst e;exact c
    ·exact hp j (by omega)
   ·refine .inr ⟨_,by rw[h i hl,if_neg c],(fun s' e=>by cases e),.inr ⟨rfl,fun hx=>c (hx _ (iU (by omega) (by omega)))⟩⟩
  ·obtain rfl:i=xs.length:=by omega
   refine .inr ⟨_,he,(fun s' e=>by cases e),.inl ⟨rfl,fun x hx=>?_⟩⟩
   obtain ⟨j,hj,rfl⟩:=Em hx
   exact hp j hj) ⟨rfl,by omega⟩ (rm hN)
 rcases hq with ⟨rfl,hq⟩ | ⟨rfl,hq⟩
 ·exact .inl ⟨e,hq⟩
 ·exact .inr ⟨e,hq⟩
section
variable {a:AutT} {n:Nat} (V:VA a n)
include V
theorem VA.pos:0<n:=by have:=V.start;omega
theorem VA.rowAt {s:Int} (h0:0<=s) (h1:s<n):(nth a.2.2 s).length=9:=V.row _ (iU h0 (by rw[V.nlen];exact h1))
theorem VA.mv {s:Int} {k:Nat} (h0:0<=s) (h1:s<n) (hk:k<9): -1<=mv a s k/\mv a s k<n:=
 V.ent _ (iU h0 (by rw[V.nlen];exact h1)) _ (iU (by omega) (by rw[V.rowAt h0 h1];omega))
theorem VA.get {s:Int} (h0:0<=s) (h1:s<n):aK a.2.2 s=some (nth a.2.2 s):=aA h0 (by rw[V.nlen];exact h1)
theorem VA.get2 {s:Int} {k:Nat} (h0:0<=s) (h1:s<n) (hk:k<9):aK (nth a.2.2 s) (k:Int)=some (D.mv a s k):=aA (by omega) (by rw[V.rowAt h0 h1];omega)
theorem VA.acc {s:Int} (h0:0<=s) (h1:s<n):aK a.2.1 s=some (nth a.2.1 s):=aA h0 (by rw[V.len];exact h1)
theorem SG {s:Int} {k:Nat} (h0:0<=s) (h1:s<n) (hk:k<9):dA a s (k:Int)=some (mv a s k):=by
 unfold dA gU
 rw[if_neg (by simp;omega),C7];simp only[aliasOf0]
 rw[if_pos (by simp;omega),V.get h0 h1];simp only[aliasOf0]
 rw[V.get2 h0 h1 hk];rfl
end
end D
namespace D
open Go.RowKit
theorem AS (s:ByteArray):eG s=gW s:=by
 have e:eA s=kU s:=by
  funext p
  unfold eA kU
  rw[Int.mul_comm p.1 257]
 unfold eG gW
 rw[e]
theorem CS (s:ByteArray) (h:s.size<=9223372036854775806): ∃r:Int,eG s=some r/\gW s=some r/\0<=r/\r<=9972:=by
 obtain ⟨p,e,h1,h2,h3⟩:=ln (f:=eA s) (fun i p=>p.2=(i:Int)/\0<=p.1/\p.1<=9972) s.size (fun i p hi hI=>by
  obtain ⟨n,j⟩:=p
  obtain ⟨h1,h2,h3⟩:=hI
  simp only at h1 h2 h3
  subst h1
  unfold eA
  simp only[]
  rw[if_pos (decide_eq_true (by omega)),vu hi]
  simp only[aliasOf0]
  generalize s.data.toList[i] =b
  have hb:b.toNat<256:=b.toNat_lt
  rw[dI (n:=((b.toNat:Nat):Int)) (by omega) (by omega),dI (n:=n*257) (by omega) (by omega),dI (n:=n*257+(b.toNat:Int)) (by omega) (by omega),dI (n:=n*257+(b.toNat:Int)+1) (by omega) (by omega),af (by omega)]
  refine ⟨_,rfl,rfl,?_,?_⟩
  ·exact Int.tmod_nonneg _ (by omega)
  ·have:Int.tmod (n*257+(b.toNat:Int)+1) 9973<9973:=Int.tmod_lt_of_pos _ (by decide)
   show Int.tmod (n*257+(b.toNat:Int)+1) 9973<=9972
   omega) (fun p hI=>by
  obtain ⟨n,j⟩:=p
  obtain ⟨h1,-⟩:=hI
  simp only at h1
  subst h1
  unfold eA
  simp only[]
  rw[if_neg (by simp)]) (s:=(1,0)) ⟨rfl,by decide,by decide⟩ (fO _ (by omega))
 have k:eG s=some p.1:=by
  unfold eG
  rw[au e]
 exact ⟨p.1,k,by rw[<-AS];exact k,h2,h3⟩
def edOk (e:Int×Int×Int×Int):Prop:=(1<=e.1/\e.1<=99)/\(0<=e.2.1/\e.2.1<=4)/\(0<=e.2.2.1/\e.2.2.1<=4)/\(0<=e.2.2.2/\e.2.2.2<=2)
instance (e:Int×Int×Int×Int):Decidable (edOk e):=inferInstanceAs (Decidable (_/\_))
def py (e:Int×Int×Int×Int):List UInt8:=Lib.itoa e.1++ [58] ++Lib.itoa e.2.1++ [UInt8.ofNat (97+e.2.2.2.toNat)] ++Lib.itoa e.2.2.1
theorem Nu: ∀k:Fin 3,dn (IntKind.i64.wrap (2*(k.val:Int)))=some (mkB [UInt8.ofNat (97+k.val)]):=by
 intro k
 match k with
 | ⟨0,_⟩=>rfl
 | ⟨1,_⟩=>rfl
 | ⟨2,_⟩=>rfl
theorem Nv: ∀k:Fin 3,l6 (⟨#[97,98,99]⟩) (k.val:Int) (IntKind.i64.wrap ((k.val:Int)+1))=some (mkB [UInt8.ofNat (97+k.val)]):=by
 intro k
 match k with
 | ⟨0,_⟩=>rfl
 | ⟨1,_⟩=>rfl
 | ⟨2,_⟩=>rfl
theorem Kt (e:Int×Int×Int×Int):gu e=some (if edOk e then mkB (py e) else mkB []):=by
 unfold gu
 rw[HK,HK,HK,HK]
 simp only[aliasOf0]
 by_cases h:edOk e
 ·obtain ⟨h1,h2,h3,h4⟩:=h
  rw[if_pos (decide_eq_true h1),if_pos (decide_eq_true h2),if_pos (decide_eq_true h3),if_pos (decide_eq_true h4),if_pos ⟨h1,h2,h3,h4⟩]
  have i1:I64 e.1:=by unfold I64;omega
  have i2:I64 e.2.1:=by unfold I64;omega
  have i3:I64 e.2.2.1:=by unfold I64;omega
  have n1:=oo i1
  have n2:=oo i2
  have n3:=oo i3
  obtain ⟨k,hk,ek⟩: ∃k:Nat,k<3/\e.2.2.2=(k:Int):=⟨e.2.2.2.toNat,by omega,by omega⟩
  rw[pZ i1,pZ i2,pZ i3,ek,Nu ⟨k,hk⟩]
  simp only[aliasOf0]
  have c1:j5 (mkB (Lib.itoa e.1)) (⟨#[58]⟩)=some (mkB (Lib.itoa e.1++ [58])):=AQ _ [58] (by simp;omega)
  rw[c1]
  simp only[aliasOf0]
  rw[AQ _ _ (by simp;omega)]
  simp only[aliasOf0]
  rw[AQ _ _ (by simp;omega)]
  simp only[aliasOf0]
  rw[AQ _ _ (by simp;omega)]
  simp only[aliasOf0]
  unfold py
  rw[ek];rfl
 ·rw[if_neg h]
  split
  ·split
   ·split
    ·split
     ·rename_i a b c d
      exact absurd ⟨of_decide_eq_true a,of_decide_eq_true b,of_decide_eq_true c,of_decide_eq_true d⟩ h
     ·rfl
    ·rfl
   ·rfl
  ·rfl
theorem Ku (e:Int×Int×Int×Int):gx e=some (if edOk e then mkB (py e) else mkB []):=by
 have h5:IntKind.i64.wrap (5 - 1)=4:=by decide
 have hok:gT (e.1,e.2.1,e.2.2.1,e.2.2.2) 5=some (decide (edOk e)):=by
  unfold gT
  rw[h5,C7,C7,C7,C7]
  simp only[aliasOf0]
  by_cases h1:1<=e.1/\e.1<=99
  ·rw[if_pos (decide_eq_true h1)]
   by_cases h2:0<=e.2.1/\e.2.1<=4
   ·rw[if_pos (decide_eq_true h2)]
    by_cases h3:0<=e.2.2.1/\e.2.2.1<=4
    ·rw[if_pos (decide_eq_true h3)]
     congr 1
     exact decide_eq_decide.2 ⟨fun h4=>⟨h1,h2,h3,h4⟩,fun h=>h.2.2.2⟩
    ·rw[if_neg (by simpa using h3),decide_eq_false (fun h:edOk e=>h3 h.2.2.1)]
   ·rw[if_neg (by simpa using h2),decide_eq_false (fun h:edOk e=>h2 h.2.1)]
  ·rw[if_neg (by simpa using h1),decide_eq_false (fun h:edOk e=>h1 h.1)]
 unfold gx
 rw[hok]
 simp only[aliasOf0]
 by_cases h:edOk e
 ·rw[if_pos (decide_eq_true h),if_pos h]
  obtain ⟨h1,h2,h3,h4⟩:=h
  have i1:I64 e.1:=by unfold I64;omega
  have i2:I64 e.2.1:=by unfold I64;omega
  have i3:I64 e.2.2.1:=by unfold I64;omega
  have n1:=oo i1
  have n2:=oo i2
  have n3:=oo i3
  obtain ⟨k,hk,ek⟩: ∃k:Nat,k<3/\e.2.2.2=(k:Int):=⟨e.2.2.2.toNat,by omega,by omega⟩
  rw[su i1,su i2,su i3,ek,Nv ⟨k,hk⟩]
  simp only[aliasOf0]
  have c1:j5 (mkB (Lib.itoa e.1)) (⟨#[58]⟩)=some (mkB (Lib.itoa e.1++ [58])):=AQ _ [58] (by simp;omega)
  rw[c1]
  simp only[aliasOf0]
  rw[AQ _ _ (by simp;omega)]
  simp only[aliasOf0]
  rw[AQ _ _ (by simp;omega)]
  simp only[aliasOf0]
  rw[AQ _ _ (by simp;omega)]
  simp only[aliasOf0]
  unfold py
  rw[ek];rfl
 ·rw[if_neg (by simpa using h),if_neg h];rfl
end D
namespace D
open Go.RowKit
abbrev ChT:Type:=Bool×Int×Int×Int×Int
def mf (c:ChT):List UInt8:=(if c.1 then 43 else 45)::py c.2
def btx (l:List ChT):List UInt8:=Lib.join (l.map mf) [32]
def vv (l:List ChT):Prop:= ∀c,c∈l->edOk c.2
theorem p7 {e:Int×Int×Int×Int} (h:edOk e):(py e).length<=70:=by
 obtain ⟨h1,h2,h3,h4⟩:=h
 have n1:=oo (n:=e.1) (by unfold I64;omega)
 have n2:=oo (n:=e.2.1) (by unfold I64;omega)
 have n3:=oo (n:=e.2.2.1) (by unfold I64;omega)
 unfold py
 simp only[aliasOf5,aliasOf6,aliasOf19];omega
theorem Kv (e:Int×Int×Int×Int):(mkB (py e)==(⟨#[]⟩:ByteArray))=false:=by
 rw[beq_eq_false_iff_ne]
 intro k
 have:=congrArg ByteArray.size k
 rw[bh] at this
 unfold py at this
 simp only[aliasOf5,aliasOf6,aliasOf19] at this
 have e0:(⟨#[]⟩:ByteArray).size=0:=rfl
 omega
theorem Kw: ∀(r:List ChT),vv r->(Lib.joinTail [32] (r.map mf)).length<=72*r.length
 | [],_=>by simp[Lib.joinTail]
 | c::r,h=>by
  have h1:=Kw r fun q hq=>h q (aliasOf16 _ hq)
  have h2:=p7 (h c (by simp))
  have e:Lib.joinTail [32] ((c::r).map mf)=([32] ++mf c)++Lib.joinTail [32] (r.map mf):=by simp[Lib.joinTail]
  rw[e,aliasOf5,aliasOf5,aliasOf6]
  unfold mf
  simp only[aliasOf6,aliasOf19]
  unfold mf at h1
  omega
theorem AT {l:List ChT} (h:vv l):(btx l).length<=72*l.length:=by
 cases l with
 | nil=>simp[btx,Lib.join_nil]
 | cons c r =>
  have h1:=Kw r fun q hq=>h q (aliasOf16 _ hq)
  have h2:=p7 (h c (by simp))
  unfold btx
  rw[List.map_cons,Lib.join_cons,aliasOf5,aliasOf6]
  have:(mf c).length=(py c.2).length+1:=by unfold mf;rw[aliasOf6]
  omega
theorem Nw {l:List ChT} {i:Nat} (hi:i<l.length):btx (l.take (i+1))=if i=0 then mf l[i] else btx (l.take i)++ [32] ++mf l[i]:=by
 unfold btx
 rw[List.take_succ_eq_append_getElem hi,aliasOf20,List.map_cons,List.map_nil,Km]
 by_cases h:i=0
 ·subst h;rw[if_pos (by simp),if_pos rfl]
 ·rw[if_neg (by
   intro e
   have:=congrArg List.length e
   rw[List.length_map,aliasOf12,aliasOf19] at this
   omega),if_neg h]
theorem CT {l:List ChT} {i:Nat} (hi:i<l.length) (h:vv (l.take i)) (k:edOk l[i].2):vv (l.take (i+1)):=by
 rw[List.take_succ_eq_append_getElem hi]
 intro c hc
 rcases aliasOf9 hc with hc | hc
 ·exact h c hc
 ·obtain rfl:=aliasOf7 hc;exact k
theorem Q6 {l:List ChT} (hl:l.length<=6):(vv l/\aq (dC l) aS (([] :List ByteArray),0)=some (.brk (l.map (fun c=>mkB (mf c)),(l.length:Int))))\/(¬vv l/\aq (dC l) aS (([] :List ByteArray),0)=some (.ret (mkB []))):=by
 obtain ⟨o,e,hQ⟩:=cy (f:=dC l) (fun i s=>s=((l.take i).map (fun c=>mkB (mf c)),(i:Int))/\vv (l.take i)) (fun o=>(vv l/\o= .brk (l.map (fun c=>mkB (mf c)),(l.length:Int)))\/(¬vv l/\o= .ret (mkB []))) l.length (fun i s hi hI=>by
  obtain ⟨rfl,hb⟩:=hI
  unfold dC
  simp only[]
  by_cases h1:i<l.length
  ·rw[bz h1,if_pos rfl,ax h1]
   simp only[aliasOf0]
   rw[Ku]
   simp only[aliasOf0]
   by_cases k:edOk l[i].2
   ·have n1:=p7 k
    have c1:j5 (⟨#[43]⟩) (mkB (py l[i].2))=some (mkB (43::py l[i].2)):=AQ [43] _ (by simp;omega)
    have c2:j5 (⟨#[45]⟩) (mkB (py l[i].2))=some (mkB (45::py l[i].2)):=AQ [45] _ (by simp;omega)
    have hx: ∀z:ByteArray,cS 16 ((l.take i).map (fun c=>mkB (mf c))) [z] =some ((l.take i).map (fun c=>mkB (mf c))++ [z]):=fun z=>aD (by rw[List.length_map,aliasOf12];simp only[aliasOf6,aliasOf19];omega)
    refine .inl ⟨h1,((l.take (i+1)).map (fun c=>mkB (mf c)),((i+1:Nat):Int)),?_,rfl,CT h1 hb k⟩
    rw[if_pos k,if_neg (by rw[Kv];decide),c1,c2]
    simp only[aliasOf0]
    rw[hx,hx,List.take_succ_eq_append_getElem h1,aliasOf20,List.map_cons,List.map_nil,<-af (show i<9223372036854775807 by omega)]
    have ec:mf l[i] =(if l[i].1=true then 43 else 45)::py l[i].2:=rfl
    rw[ec]
    generalize l[i].1=t
    cases t <;> rfl
   ·refine .inr ⟨.ret (mkB []),?_,fun s' h=>(by simp at h),.inr ⟨fun h=>k (h _ (List.getElem_mem h1)),rfl⟩⟩
    rw[if_neg k];rfl
  ·obtain rfl:i=l.length:=by omega
   rw[List.take_length] at hb
   refine .inr ⟨_,by rw[bj];rfl,fun s' h=>(by simp at h),.inl ⟨hb,by rw[List.take_length]⟩⟩) (s:=([],0)) ⟨rfl,fun c hc=>by simp at hc⟩ (fO _ (by omega))
 rcases hQ with ⟨h,rfl⟩ | ⟨h,rfl⟩
 ·exact .inl ⟨h,e⟩
 ·exact .inr ⟨h,e⟩
theorem Q7 {l:List ChT} (hl:l.length<=6):(vv l/\aq (dx l) aS ((⟨#[]⟩:ByteArray),0)=some (.brk (mkB (btx l),(l.length:Int))))\/(¬vv l/\aq (dx l) aS ((⟨#[]⟩:ByteArray),0)=some (.ret (mkB []))):=by
 obtain ⟨o,e,hQ⟩:=cy (f:=dx l) (fun i s=>s=(mkB (btx (l.take i)),(i:Int))/\vv (l.take i)) (fun o=>(vv l/\o= .brk (mkB (btx l),(l.length:Int)))\/(¬vv l/\o= .ret (mkB []))) l.length (fun i s hi hI=>by
  obtain ⟨rfl,hb⟩:=hI
  have hn:=AT hb
  rw[aliasOf12] at hn
  unfold dx
  simp only[]
  by_cases h1:i<l.length
  ·rw[bz h1,if_pos rfl,ax h1]
   simp only[aliasOf0]
   rw[Kt]
   simp only[aliasOf0]
   by_cases k:edOk l[i].2
   ·have n1:=p7 k
    refine .inl ⟨h1,(mkB (btx (l.take (i+1))),((i+1:Nat):Int)),?_,rfl,CT h1 hb k⟩
    rw[if_pos k,if_neg (by rw[Kv];decide),Nw h1,<-af (show i<9223372036854775807 by omega)]
    have ec:mf l[i] =(if l[i].1=true then 43 else 45)::py l[i].2:=rfl
    rw[ec]
    generalize l[i].1=t
    have g1: ∀(a:List UInt8) (b:UInt8),a.length<=1000->j5 (mkB a) (mkB [b])=some (mkB (a++ [b])):=fun a b ha=>AQ _ _ (by simp;omega)
    have g2: ∀(a:List UInt8) (b:UInt8),a.length<=1000->j5 (mkB (a++ [b])) (mkB (py l[i].2))=some (mkB (a++b::py l[i].2)):=fun a b ha=>by
     rw[AQ _ _ (by simp;omega),aliasOf4];rfl
    by_cases h0:i=0
    ·subst h0
     have eb:btx (l.take 0)= []:=rfl
     have q1:=g1 [] 43 (by simp)
     have q2:=g1 [] 45 (by simp)
     have q3:=g2 [] 43 (by simp)
     have q4:=g2 [] 45 (by simp)
     have l1:(⟨#[43]⟩:ByteArray)=mkB [43]:=rfl
     have l2:(⟨#[45]⟩:ByteArray)=mkB [45]:=rfl
     rw[eb,if_pos rfl,if_neg (by simp)]
     simp only[aliasOf0]
     rw[l1,l2,q1,q2]
     simp only[aliasOf0]
     rw[q3,q4]
     cases t <;> rfl
    ·have hs:=g1 (btx (l.take i)) 32 (by omega)
     have q1:=g1 (btx (l.take i)++ [32]) 43 (by simp;omega)
     have q2:=g1 (btx (l.take i)++ [32]) 45 (by simp;omega)
     have q3:=g2 (btx (l.take i)++ [32]) 43 (by simp;omega)
     have q4:=g2 (btx (l.take i)++ [32]) 45 (by simp;omega)
     have l1:(⟨#[43]⟩:ByteArray)=mkB [43]:=rfl
     have l2:(⟨#[45]⟩:ByteArray)=mkB [45]:=rfl
     have l3:(⟨#[32]⟩:ByteArray)=mkB [32]:=rfl
     rw[if_neg h0,if_pos (decide_eq_true (by omega)),l1,l2,l3,hs]
     simp only[aliasOf0]
     rw[q1,q2]
     simp only[aliasOf0]
     rw[q3,q4]
     cases t <;> rfl
   ·refine .inr ⟨.ret (mkB []),?_,fun s' h=>(by simp at h),.inr ⟨fun h=>k (h _ (List.getElem_mem h1)),rfl⟩⟩
    rw[if_neg k];rfl
  ·obtain rfl:i=l.length:=by omega
   rw[List.take_length] at hb
   refine .inr ⟨_,by rw[bj];rfl,fun s' h=>(by simp at h),.inl ⟨hb,by rw[List.take_length]⟩⟩) (s:=((⟨#[]⟩:ByteArray),0)) ⟨rfl,fun c hc=>by simp at hc⟩ (fO _ (by omega))
 rcases hQ with ⟨h,rfl⟩ | ⟨h,rfl⟩
 ·exact .inl ⟨h,e⟩
 ·exact .inr ⟨h,e⟩
open Classical in
theorem p8 (l:List ChT):cd l=some (if l.length<=6/\vv l then mkB (btx l) else mkB [])/\c8 l=some (if l.length<=6/\vv l then mkB (btx l) else mkB []):=by
 unfold cd c8
 by_cases h6:l.length<=6
 ·have hd: ¬decide ((l.length:Int)>6)=true:=by rw[decide_eq_true_eq];omega
  constructor
  ·rw[if_neg hd]
   rcases Q7 h6 with ⟨h,e⟩ | ⟨h,e⟩
   ·rw[au e,if_pos ⟨h6,h⟩]
   ·rw[bX e,if_neg fun k=>h k.2]
  ·rw[if_neg hd]
   rcases Q6 h6 with ⟨h,e⟩ | ⟨h,e⟩
   ·have hn:=AT h
    rw[au e,if_pos ⟨h6,h⟩]
    show (gE (l.map fun p=>mkB (mf p)) (mkB [32])).bind _=_
    unfold gE R.Nf chk
    have e:(l.map fun p=>mkB (mf p)).map (·.data.toList)=l.map mf:=by
     rw[List.map_map]
     exact List.map_congr_left fun p _=>dF _
    rw[e,dF,List.length_map,if_pos ⟨by omega,by show (btx l).length<=_;omega⟩];rfl
   ·rw[bX e,if_neg fun k=>h k.2]
 ·have hd:decide ((l.length:Int)>6)=true:=decide_eq_true (by omega)
  constructor
  ·rw[if_pos hd,if_neg fun k=>h6 k.1];rfl
  ·rw[if_pos hd,if_neg fun k=>h6 k.1];rfl
end D
namespace D
open Go.RowKit
theorem xz (v:Int) (l:List ChT): ∃r:ByteArray,dq v l=some r/\fe v l=some r/\r.size<=1000:=by
 obtain ⟨es,ei⟩:=p8 l
 obtain ⟨t,et,hn⟩: ∃t:List UInt8,(cd l=some (mkB t)/\c8 l=some (mkB t))/\t.length<=432:=by
  by_cases h:l.length<=6/\vv l
  ·have:=AT h.2
   refine ⟨btx l,⟨?_,?_⟩,by omega⟩
   ·rw[es,if_pos h]
   ·rw[ei,if_pos h]
  ·refine ⟨[],⟨?_,?_⟩,by simp⟩
   ·rw[es,if_neg h]
   ·rw[ei,if_neg h]
 obtain ⟨e1,e2⟩:=et
 unfold dq fe
 rw[e1,e2,HK,C7]
 simp only[aliasOf0]
 by_cases hv:1<=v/\v<=999
 ·have iv:I64 v:=by unfold I64;omega
  have nv:=oo iv
  have c1:j5 (mkB (Lib.itoa v)) (⟨#[59]⟩)=some (mkB (Lib.itoa v++ [59])):=AQ _ [59] (by simp;omega)
  have c2:j5 (mkB (Lib.itoa v++ [59])) (mkB t)=some (mkB (Lib.itoa v++ [59] ++t)):=AQ _ _ (by simp;omega)
  have c3:j5 (mkB (Lib.itoa v++ [59] ++t)) (⟨#[59]⟩)=some (mkB (Lib.itoa v++ [59] ++t++ [59])):=AQ _ [59] (by simp;omega)
  obtain ⟨q,k1,k2,q1,q2⟩:=CS (mkB (Lib.itoa v++ [59] ++t++ [59])) (by rw[bh];simp;omega)
  have iq:I64 q:=by unfold I64;omega
  have nq:=oo iq
  have c4:j5 (mkB (Lib.itoa v++ [59] ++t++ [59])) (mkB (Lib.itoa q))=some (mkB (Lib.itoa v++ [59] ++t++ [59] ++Lib.itoa q)):=AQ _ _ (by simp;omega)
  have c5:j5 (mkB (Lib.itoa v++ [59] ++t++ [59] ++Lib.itoa q)) (⟨#[10]⟩)=some (mkB (Lib.itoa v++ [59] ++t++ [59] ++Lib.itoa q++ [10])):=AQ _ [10] (by simp;omega)
  have hs:(mkB (Lib.itoa v++ [59] ++t++ [59] ++Lib.itoa q++ [10])).size<=1000:=by rw[bh];simp;omega
  have h0:((⟨#[]⟩:ByteArray)).size<=1000:=by decide
  rw[decide_eq_true hv]
  simp only[if_true,pZ iv,su iv,pZ iq,su iq,c1,c2,c3,k1,k2,c4,c5,aliasOf0]
  by_cases a:decide ((l.length:Int)>0)=true
  ·by_cases b:(mkB t==(⟨#[]⟩:ByteArray))=true
   ·simp only[if_pos a,if_pos b];exact ⟨_,rfl,rfl,h0⟩
   ·simp only[if_pos a,if_neg b];exact ⟨_,rfl,rfl,hs⟩
  ·by_cases b:(mkB t==(⟨#[]⟩:ByteArray))=true
   ·simp only[if_neg a,if_pos b];exact ⟨_,rfl,rfl,hs⟩
   ·simp only[if_neg a,if_neg b];exact ⟨_,rfl,rfl,hs⟩
 ·rw[decide_eq_false hv]
  exact ⟨_,rfl,rfl,by decide⟩
end D
namespace D
open Go.RowKit
def mg (c:UInt8) (cur:List UInt8):List UInt8->List (List UInt8)
 | [] =>[cur]
 | b::l=>if b=c then cur::mg c [] l else mg c (cur++ [b]) l
theorem lq {c:UInt8} : ∀ {l cur:List UInt8},c∉l->mg c cur l= [cur++l]
 | [],cur,_=>by simp[mg]
 | b::l,cur,h=>by
  have hb:b≠c:=fun e=>h (by simp[e])
  rw[mg,if_neg hb,lq fun k=>h (aliasOf16 _ k)]
  simp
theorem nL {c:UInt8} : ∀ {a cur r:List UInt8},c∉a->mg c cur (a++c::r)=(cur++a)::mg c [] r
 | [],cur,r,_=>by simp[mg]
 | b::a,cur,r,h=>by
  have hb:b≠c:=fun e=>h (by simp[e])
  rw[List.cons_append,mg,if_neg hb,nL fun k=>h (aliasOf16 _ k)]
  simp
theorem AU (c:UInt8): ∀(l cur:List UInt8),(mg c cur l).length<=l.length+1
 | [],cur=>by simp[mg]
 | b::l,cur=>by
  rw[mg]
  split
  ·have:=AU c l [];simp only[aliasOf6];omega
  ·have:=AU c l (cur++ [b]);simp only[aliasOf6];omega
theorem pz (c:UInt8): ∀(l cur:List UInt8),∀x∈mg c cur l,x.length<=cur.length+l.length
 | [],cur,x,h=>by simp[mg] at h;subst h;simp
 | b::l,cur,x,h=>by
  rw[mg] at h
  split at h
  ·rcases aliasOf8 h with rfl | h
   ·simp
   ·have:=pz c l [] x h;simp at this;simp;omega
  ·have:=pz c l _ x h;simp at this;simp;omega
theorem p9 (c:UInt8) (l:List UInt8):c∉l\/ ∃a r,l=a++c::r/\c∉a:=by
 by_cases h:c∈l
 ·obtain ⟨a,r,e,k⟩:=List.eq_append_cons_of_mem h
  exact .inr ⟨a,r,e,k⟩
 ·exact .inl h
theorem AW (s:ByteArray):mkB s.data.toList=s:=by simp[mkB]
theorem OV (s:ByteArray): ∃l:List UInt8,s=mkB l:=⟨_,(AW s).symm⟩
theorem tI {a b:List UInt8} (h:mkB a=mkB b):a=b:=by rw[<-dF a,h,dF]
theorem slB {l:List UInt8} {a b:Nat} (h1:a<=b) (h2:b<=l.length):l6 (mkB l) (a:Int) (b:Int)=some (mkB ((l.take b).drop a)):=by
 unfold l6 chk
 rw[bh,if_pos ⟨by omega,by omega,by omega⟩,aliasOf0]
 congr 1
 refine ByteArray.ext ?_
 simp[mkB,List.drop_take]
theorem atB {l:List UInt8} {i:Nat} (h:i<l.length):gN (mkB l) (i:Int)=some ((l[i].toNat:Nat):Int):=by
 rw[vu (by rw[bh];exact h)]
 simp[mkB]
theorem sv (l:List UInt8) (c:UInt8) (hl:l.length<=1000000):fH (mkB l) ((c.toNat:Nat):Int)=some ((mg c [] l).map mkB):=by
 obtain ⟨s,e,fr,done,rfl,h1,h2,h3⟩:=ln (f:=lK (mkB l) ((c.toNat:Nat):Int)) (fun i s=> ∃(fr:Nat) (done:List (List UInt8)),s=(done.map mkB,(fr:Int),(i:Int))/\fr<=i/\done.length<=i/\done++mg c ((l.take i).drop fr) (l.drop i)=mg c [] l) l.length (fun i s hi hI=>by
  obtain ⟨fr,done,rfl,h1,h2,h3⟩:=hI
  unfold lK
  simp only[]
  rw[if_pos (decide_eq_true (by rw[bh];omega)),atB hi]
  simp only[aliasOf0]
  rw[List.drop_eq_getElem_cons hi,mg] at h3
  by_cases k:l[i] =c
  ·rw[if_pos k] at h3
   rw[if_pos (by rw[k];simp),slB h1 (by omega)]
   simp only[aliasOf0]
   have hx:cS 16 (done.map mkB) [mkB ((l.take i).drop fr)] =some (done.map mkB++ [mkB ((l.take i).drop fr)]):=aD (by rw[List.length_map];simp only[aliasOf6,aliasOf19];omega)
   rw[hx]
   simp only[aliasOf0]
   refine ⟨_,rfl,i+1,done++ [(l.take i).drop fr],?_,al _,by simp;omega,?_⟩
   ·rw[aliasOf20,List.map_cons,List.map_nil,af (by omega)]
   ·rw[<-h3,aliasOf4,List.drop_of_length_le (l:=l.take (i+1)) (by rw[aliasOf12];omega)];rfl
  ·rw[if_neg k] at h3
   rw[if_neg (fun e=>k (UInt8.toNat_inj.1 (by have:=eq_of_beq e;omega)))]
   simp only[aliasOf0]
   refine ⟨_,rfl,fr,done,?_,by omega,by omega,?_⟩
   ·rw[af (by omega)]
   ·rw[<-h3,List.take_succ_eq_append_getElem hi,List.drop_append_of_le_length (by rw[aliasOf12];omega)]) (fun s hI=>by
  obtain ⟨fr,done,rfl,h1,h2,h3⟩:=hI
  unfold lK
  simp only[]
  rw[if_neg (by rw[bh];simp)]) (s:=(([] :List ByteArray),0,0)) ⟨0,[],rfl,al _,al _,by simp⟩ (fO _ (by omega))
 unfold fH
 rw[au e,bh]
 simp only[]
 rw[slB h1 (al _)]
 simp only[aliasOf0]
 have hx:cS 16 (done.map mkB) [mkB ((l.take l.length).drop fr)] =some (done.map mkB++ [mkB ((l.take l.length).drop fr)]):=aD (by rw[List.length_map];simp only[aliasOf6,aliasOf19];omega)
 rw[hx,<-h3,List.drop_length,mg]
 simp
theorem AX {c:UInt8} : ∀ {l:List UInt8},c∉l->Lib.index l [c] = -1
 | [],_=>rfl
 | b::l,h=>by
  have hb:c≠b:=fun e=>h (by simp[e])
  have k:([c] :List UInt8).isPrefixOf (b::l)=false:=by simp[List.isPrefixOf,hb]
  rw[Lib.index,k,AX fun k=>h (aliasOf16 _ k)];rfl
theorem AY {c:UInt8} : ∀ {a r:List UInt8},c∉a->Lib.index (a++c::r) [c] =(a.length:Int)
 | [],r,_=>by simp[Lib.index,List.isPrefixOf]
 | b::a,r,h=>by
  have hb:c≠b:=fun e=>h (by simp[e])
  have k:([c] :List UInt8).isPrefixOf (b::(a++c::r))=false:=by simp[List.isPrefixOf,hb]
  rw[List.cons_append,Lib.index,k,AY fun k=>h (aliasOf16 _ k)]
  rw[if_neg (by decide),if_neg (by rw[beq_iff_eq];omega),aliasOf6];omega
theorem CU (c:UInt8): ∀(n:Nat) (l:List UInt8),l.length<=n->Lib.splitK [c] 0 (Lib.count l [c]) l=mg c [] l
 | n,l,h=>by
  rcases p9 c l with k | ⟨a,r,rfl,k⟩
  ·have e:=AX k
   rw[Lib.count_miss e,lq k];rfl
  ·have e:=AY (r:=r) k
   have hd:(a++c::r).drop (a.length+1)=r:=by
    rw[<-List.drop_drop,List.drop_left];rfl
   rw[Lib.count_hit (by simp) e,nL k,Nat.add_comm 1,Lib.splitK,e,if_neg (by rw[beq_iff_eq];omega)]
   show List.take (a.length+0) _::Lib.splitK [c] 0 (Lib.count ((a++c::r).drop (a.length+1)) [c]) ((a++c::r).drop (a.length+1))=_
   rw[hd,Nat.add_zero,List.take_left]
   cases n with
   | zero=>simp at h
   | succ n=>rw[CU c n r (by simp at h;omega)];rfl
theorem AZ (l:List UInt8) (c:UInt8) (hl:l.length<=1000000):bV (mkB l) (mkB [c])=some ((mg c [] l).map mkB):=by
 unfold bV R.FG chk
 rw[bh,bh,if_pos ⟨by omega,by simp⟩,aliasOf0]
 congr 1
 have e:=Lib.splitB_data (mkB [c]) 0 (Lib.countB (mkB l) (mkB [c])) (mkB l)
 rw[dF,dF] at e
 have e2:Lib.countB (mkB l) (mkB [c])=Lib.count l [c]:=by unfold Lib.countB;rw[dF,dF]
 rw[e2,CU c l.length l (al _)] at e
 rw[e2,<-e,List.map_map]
 conv=>lhs;rw[<-List.map_id (Lib.splitB _ _ _ _)]
 exact List.map_congr_left fun x _=>(AW x).symm
theorem Nx {l:List UInt8} {c:UInt8} (hl:l.length<=1000000) (h:c∉l):cj (mkB l) (mkB [c])=some (mkB l,mkB [],false):=by
 unfold cj R.Sw chk
 rw[bh,if_pos (by omega),aliasOf0,dF,dF]
 have:Lib.cut l [c] =(l,[],false):=by unfold Lib.cut;rw[AX h,if_neg (by decide)]
 rw[this];rfl
theorem OW {a r:List UInt8} {c:UInt8} (hl:(a++c::r).length<=1000000) (h:c∉a):cj (mkB (a++c::r)) (mkB [c])=some (mkB a,mkB r,true):=by
 unfold cj R.Sw chk
 rw[bh,if_pos (by omega),aliasOf0,dF,dF]
 have:Lib.cut (a++c::r) [c] =(a,r,true):=by
  unfold Lib.cut
  rw[AY h,if_pos (by omega)]
  have hd:(a++c::r).drop (a.length+1)=r:=by
   rw[<-List.drop_drop,List.drop_left];rfl
  show (List.take a.length _,List.drop (a.length+1) _,true)=_
  rw[List.take_left,hd]
 rw[this];rfl
theorem FU {c:UInt8} : ∀ {l:List UInt8},c∉l->Lib.indexByte l c= -1
 | [],_=>rfl
 | b::l,h=>by
  have hb:b≠c:=fun e=>h (by simp[e])
  rw[Lib.indexByte,if_neg (by simpa using hb),FU fun k=>h (aliasOf16 _ k)];rfl
theorem OX {c:UInt8} : ∀ {a r:List UInt8},c∉a->Lib.indexByte (a++c::r) c=(a.length:Int)
 | [],r,_=>by simp[Lib.indexByte]
 | b::a,r,h=>by
  have hb:b≠c:=fun e=>h (by simp[e])
  rw[List.cons_append,Lib.indexByte,if_neg (by simpa using hb),OX fun k=>h (aliasOf16 _ k),if_neg (by rw[beq_iff_eq];omega),aliasOf6];omega
end D
namespace D
open Go.RowKit
theorem Ug {α:Type} {l:List α} (h:l.length=3): ∃a b c,l= [a,b,c]:=by
 match l,h with
 | [a,b,c],_=>exact ⟨a,b,c,rfl⟩
abbrev EgT:Type:=Int×Int×Int×Int
theorem Ny (c:UInt8) (cur l:List UInt8):1<=(mg c cur l).length:=by
 rcases p9 c l with k | ⟨a,r,rfl,k⟩
 ·rw[lq k];simp
 ·rw[nL k];simp
theorem CV (u:Nat): ∀b∈Lib.decDigits u,48<=b.toNat/\b.toNat<=57:=by
 induction u using Nat.strongRecOn with
 | _ u ih =>
  intro b hb
  have k: ∀d,d<10->48<=(UInt8.ofNat (48+d)).toNat/\(UInt8.ofNat (48+d)).toNat<=57:=fun d hd=>by
   have e:(UInt8.ofNat (48+d)).toNat=48+d:=by simp;omega
   omega
  by_cases h:u<10
  ·rw[Lib.decDigits_one h] at hb
   obtain rfl:=aliasOf7 hb
   exact k u h
  ·rw[vt h] at hb
   rcases aliasOf9 hb with hb | hb
   ·exact ih (u / 10) (by omega) b hb
   ·obtain rfl:=aliasOf7 hb
    exact k _ (Nat.mod_lt _ (by omega))
theorem Nz (n:Int): ∀b∈Lib.itoa n,b.toNat=45\/48<=b.toNat/\b.toNat<=57:=by
 intro b hb
 unfold Lib.itoa at hb
 split at hb
 ·rcases aliasOf8 hb with rfl | hb
  ·exact .inl rfl
  ·exact .inr (CV _ b hb)
 ·exact .inr (CV _ b hb)
theorem OY {n:Int} {c:UInt8} (h1:c.toNat≠45) (h2:c.toNat<48\/57<c.toNat):c∉Lib.itoa n:=fun h=>by
 rcases Nz n c h with k | k <;> omega
theorem OZ {n:Int} (h:0<=n/\n<=9):Lib.itoa n= [UInt8.ofNat (48+n.toNat)]:=by
 unfold Lib.itoa
 rw[if_neg (by omega),Lib.decDigits_one (by omega)]
theorem Ep {e:EgT} (h:edOk e):py e=Lib.itoa e.1++58:: [UInt8.ofNat (48+e.2.1.toNat),UInt8.ofNat (97+e.2.2.2.toNat),UInt8.ofNat (48+e.2.2.1.toNat)]:=by
 obtain ⟨-,h2,h3,-⟩:=h
 unfold py
 rw[OZ (n:=e.2.1) (by omega),OZ (n:=e.2.2.1) (by omega)]
 simp
theorem SH: ∀k:Fin 9,∃x,dn (k.val:Int)=some x:=by
 intro k
 match k with
 | ⟨0,_⟩=>exact ⟨_,rfl⟩
 | ⟨1,_⟩=>exact ⟨_,rfl⟩
 | ⟨2,_⟩=>exact ⟨_,rfl⟩
 | ⟨3,_⟩=>exact ⟨_,rfl⟩
 | ⟨4,_⟩=>exact ⟨_,rfl⟩
 | ⟨5,_⟩=>exact ⟨_,rfl⟩
 | ⟨6,_⟩=>exact ⟨_,rfl⟩
 | ⟨7,_⟩=>exact ⟨_,rfl⟩
 | ⟨8,_⟩=>exact ⟨_,rfl⟩
theorem Hu (z:ByteArray): ∃r,eB z=some r:=by
 obtain ⟨o,e,h⟩:=cy (f:=iD z) (fun i s=>s=(i:Int)) (fun o=> ∀s,o≠ .nxt s) 9 (fun i s hi hI=>by
  subst hI
  unfold iD
  by_cases h1:i<9
  ·obtain ⟨x,ex⟩:=SH ⟨i,h1⟩
   have ex:dn (i:Int)=some x:=ex
   rw[if_pos (decide_eq_true (by omega)),ex]
   simp only[aliasOf0]
   by_cases c:(x==z)=true
   ·rw[if_pos c];exact .inr ⟨_,rfl,fun s' h=>(by simp at h),fun s' h=>(by simp at h)⟩
   ·rw[if_neg c];exact .inl ⟨h1,_,rfl,af (by omega)⟩
  ·obtain rfl:i=9:=by omega
   rw[if_neg (by decide)];exact .inr ⟨_,rfl,fun s' h=>(by simp at h),fun s' h=>(by simp at h)⟩) (s:=(0:Int)) rfl (fO _ (by omega))
 unfold eB
 rw[e]
 cases o with
 | nxt s=>exact absurd rfl (h s)
 | brk s=>exact ⟨_,rfl⟩
 | ret r=>exact ⟨_,rfl⟩
theorem Kx: ∀k:Fin 3,eB (mkB [UInt8.ofNat (97+k.val)])=some (2*(k.val:Int),true):=by
 intro k
 have hf:=fO 100 (by omega)
 obtain ⟨n,hn⟩: ∃n,aS=n+6:=⟨aS - 6,by omega⟩
 unfold eB
 rw[hn]
 match k with
 | ⟨0,_⟩=>rfl
 | ⟨1,_⟩=>rfl
 | ⟨2,_⟩=>rfl
theorem UZ: ∀d:Fin 5,IntKind.i64.wrap ((IntKind.i64.wrap (((UInt8.ofNat (48+d.val)).toNat:Nat):Int)) - 48)=(d.val:Int):=by decide
theorem Vf: ∀d:Fin 3,IntKind.i64.wrap ((IntKind.i64.wrap (((UInt8.ofNat (97+d.val)).toNat:Nat):Int)) - 97)=(d.val:Int):=by decide
theorem Vg: ∀d:Fin 3,Ln (2*(d.val:Int)) 2=(d.val:Int):=by decide
def TA (s:List UInt8) (r:EgT×Bool):Prop:=r=((0,0,0,0),false)\/r.2=true/\edOk r.1/\s=py r.1
theorem O0 {e:EgT} {s:List UInt8} (h:s≠ []): ∃r:EgT×Bool,(if (if edOk e then mkB (py e) else mkB []) !=mkB s then (some ((0,0,0,0),false)) else (some (e,true)):Option (EgT×Bool))=some r/\TA s r:=by
 by_cases k:edOk e
 ·rw[if_pos k]
  by_cases c:mkB (py e)=mkB s
  ·rw[if_neg (by simp[c])];exact ⟨_,rfl,.inr ⟨rfl,k,(tI c).symm⟩⟩
  ·rw[if_pos (by simpa using c)];exact ⟨_,rfl,.inl rfl⟩
 ·rw[if_neg k,if_pos (by
   rw[bne_iff_ne]
   exact fun c=>h (tI c).symm)]
  exact ⟨_,rfl,.inl rfl⟩
theorem Vh (l:List UInt8) (hl:l.length<=1000000): ∃r,eQ (mkB l)=some r/\TA l r:=by
 unfold eQ
 have ec:fH (mkB l) 58=some ((mg 58 [] l).map mkB):=sv l 58 hl
 rw[ec];simp only[aliasOf0]
 rcases p9 58 l with k | ⟨a,r,rfl,k⟩
 ·rw[lq k];exact ⟨_,rfl,.inl rfl⟩
 ·rw[nL k]
  rcases p9 58 r with k2 | ⟨b,q,rfl,k2⟩
  ·rw[lq k2]
   simp only[List.nil_append,List.map_cons,List.map_nil]
   have g0:aK [mkB a,mkB r] 0=some (mkB a):=rfl
   have g1:aK [mkB a,mkB r] 1=some (mkB r):=rfl
   rw[if_neg (by simp)]
   simp only[g0,g1,aliasOf0,bh]
   by_cases h3:r.length=3
   ·obtain ⟨x,y,z,rfl⟩:=Ug h3
    obtain ⟨n,en,-,-⟩:=nK (mkB a)
    obtain ⟨t,et⟩:=Hu (mkB [y])
    have s1:l6 (mkB [x,y,z]) 1 2=some (mkB [y]):=slB (l:=[x,y,z]) (a:=1) (b:=2) (by decide) (by simp)
    have a0:gN (mkB [x,y,z]) 0=some ((x.toNat:Nat):Int):=atB (l:=[x,y,z]) (i:=0) (by simp)
    have a2:gN (mkB [x,y,z]) 2=some ((z.toNat:Nat):Int):=atB (l:=[x,y,z]) (i:=2) (by simp)
    rw[if_neg (by simp),en,s1]
    simp only[aliasOf0]
    rw[et,a0,a2]
    simp only[aliasOf0]
    rw[Kt]
    simp only[aliasOf0]
    exact O0 (by simp)
   ·rw[if_pos (by rw[bne_iff_ne];omega)];exact ⟨_,rfl,.inl rfl⟩
  ·rw[nL k2]
   have:=Ny 58 [] q
   rw[if_pos (by rw[bne_iff_ne];simp only[List.length_map,aliasOf6];omega)]
   exact ⟨_,rfl,.inl rfl⟩
theorem Vi (l:List UInt8) (hl:l.length<=1000000): ∃r,eW (mkB l)=some r/\TA l r:=by
 unfold eW
 rcases p9 58 l with k | ⟨a,r,rfl,k⟩
 ·have ec:cj (mkB l) (⟨#[58]⟩)=some (mkB l,mkB [],false):=Nx hl k
  rw[ec];exact ⟨_,rfl,.inl rfl⟩
 ·have ec:cj (mkB (a++58::r)) (⟨#[58]⟩)=some (mkB a,mkB r,true):=OW hl k
  rw[ec]
  simp only[aliasOf0,bh]
  by_cases h3:r.length=3
  ·obtain ⟨x,y,z,rfl⟩:=Ug h3
   obtain ⟨n,-,en,-⟩:=nK (mkB a)
   have a0:gN (mkB [x,y,z]) 0=some ((x.toNat:Nat):Int):=atB (l:=[x,y,z]) (i:=0) (by simp)
   have a1:gN (mkB [x,y,z]) 1=some ((y.toNat:Nat):Int):=atB (l:=[x,y,z]) (i:=1) (by simp)
   have a2:gN (mkB [x,y,z]) 2=some ((z.toNat:Nat):Int):=atB (l:=[x,y,z]) (i:=2) (by simp)
   rw[if_neg (by simp),en,a0,a1,a2]
   simp only[aliasOf0]
   rw[Ku]
   simp only[aliasOf0]
   exact O0 (by simp)
  ·rw[if_pos (by rw[bne_iff_ne];omega)];exact ⟨_,rfl,.inl rfl⟩
theorem Q8 {e:EgT} (h:edOk e):eQ (mkB (py e))=some (e,true)/\eW (mkB (py e))=some (e,true):=by
 have hn:=p7 h
 have he:=Ep h
 have hl:(py e).length<=1000000:=by omega
 obtain ⟨h1,h2,h3,h4⟩:=id h
 obtain ⟨p1,p2⟩:=AR (n:=e.1) (by omega)
 have k:(58:UInt8)∉Lib.itoa e.1:=OY (by decide) (by decide)
 obtain ⟨f,hf,ef⟩: ∃k:Nat,k<5/\e.2.1=(k:Int):=⟨e.2.1.toNat,by omega,by omega⟩
 obtain ⟨t,ht,et⟩: ∃k:Nat,k<5/\e.2.2.1=(k:Int):=⟨e.2.2.1.toNat,by omega,by omega⟩
 obtain ⟨q,hq,eq⟩: ∃k:Nat,k<3/\e.2.2.2=(k:Int):=⟨e.2.2.2.toNat,by omega,by omega⟩
 have hx:py e=Lib.itoa e.1++58:: [UInt8.ofNat (48+f),UInt8.ofNat (97+q),UInt8.ofNat (48+t)]:=by
  rw[he,ef,et,eq];rfl
 have k2:(58:UInt8) ∉ [UInt8.ofNat (48+f),UInt8.ofNat (97+q),UInt8.ofNat (48+t)]:=by
  have e1:(UInt8.ofNat (48+f)).toNat=48+f:=by simp;omega
  have e2:(UInt8.ofNat (97+q)).toNat=97+q:=by simp;omega
  have e3:(UInt8.ofNat (48+t)).toNat=48+t:=by simp;omega
  have e4:(58:UInt8).toNat=58:=rfl
  intro hm
  simp only[List.mem_cons,List.not_mem_nil,or_false] at hm
  rcases hm with hm | hm | hm <;> (have:=congrArg UInt8.toNat hm;omega)
 have a0:gN (mkB [UInt8.ofNat (48+f),UInt8.ofNat (97+q),UInt8.ofNat (48+t)]) 0=some (((UInt8.ofNat (48+f)).toNat:Nat):Int):=atB (l:=[UInt8.ofNat (48+f),UInt8.ofNat (97+q),UInt8.ofNat (48+t)]) (i:=0) (by simp)
 have a1:gN (mkB [UInt8.ofNat (48+f),UInt8.ofNat (97+q),UInt8.ofNat (48+t)]) 1=some (((UInt8.ofNat (97+q)).toNat:Nat):Int):=atB (l:=[UInt8.ofNat (48+f),UInt8.ofNat (97+q),UInt8.ofNat (48+t)]) (i:=1) (by simp)
 have a2:gN (mkB [UInt8.ofNat (48+f),UInt8.ofNat (97+q),UInt8.ofNat (48+t)]) 2=some (((UInt8.ofNat (48+t)).toNat:Nat):Int):=atB (l:=[UInt8.ofNat (48+f),UInt8.ofNat (97+q),UInt8.ofNat (48+t)]) (i:=2) (by simp)
 have s1:l6 (mkB [UInt8.ofNat (48+f),UInt8.ofNat (97+q),UInt8.ofNat (48+t)]) 1 2=some (mkB [UInt8.ofNat (97+q)]):=slB (l:=[UInt8.ofNat (48+f),UInt8.ofNat (97+q),UInt8.ofNat (48+t)]) (a:=1) (b:=2) (by decide) (by simp)
 have v1:=UZ ⟨f,hf⟩
 have v2:=UZ ⟨t,ht⟩
 have v3:=Vf ⟨q,hq⟩
 have v4:=Vg ⟨q,hq⟩
 have v5:=Kx ⟨q,hq⟩
 simp only at v1 v2 v3 v4 v5
 have ee:(e.1,(f:Int),(t:Int),(q:Int))=e:=by rw[<-ef,<-et,<-eq]
 constructor
 ·unfold eQ
  have ec:fH (mkB (py e)) 58=some ((mg 58 [] (py e)).map mkB):=sv _ 58 hl
  rw[ec];simp only[aliasOf0]
  rw[hx,nL k,lq k2]
  simp only[List.nil_append,List.map_cons,List.map_nil]
  rw[if_neg (by simp)]
  have g0: ∀a b:ByteArray,aK [a,b] 0=some a:=fun a b=>rfl
  have g1: ∀a b:ByteArray,aK [a,b] 1=some b:=fun a b=>rfl
  simp only[g0,g1,aliasOf0,bh]
  rw[if_neg (by simp),p1,s1]
  simp only[aliasOf0]
  rw[v5,a0,a2]
  simp only[aliasOf0]
  rw[v1,v2,v4,ee,Kt,if_pos h,<-hx]
  simp
 ·unfold eW
  have ec:cj (mkB (py e)) (⟨#[58]⟩)=some (mkB (Lib.itoa e.1),mkB [UInt8.ofNat (48+f),UInt8.ofNat (97+q),UInt8.ofNat (48+t)],true):=by
   rw[hx] at hl⊢
   exact OW hl k
  rw[ec]
  simp only[aliasOf0,bh]
  rw[if_neg (by simp),p2,a0,a1,a2]
  simp only[aliasOf0]
  rw[v1,v2,v3,ee,Ku,if_pos h]
  simp
theorem Ky (l:List UInt8) (hl:l.length<=1000000): ∃r,eQ (mkB l)=some r/\eW (mkB l)=some r/\TA l r:=by
 by_cases h: ∃e:EgT,edOk e/\l=py e
 ·obtain ⟨e,he,rfl⟩:=h
  exact ⟨_,(Q8 he).1,(Q8 he).2,.inr ⟨rfl,he,rfl⟩⟩
 ·obtain ⟨r1,e1,k1⟩:=Vh l hl
  obtain ⟨r2,e2,k2⟩:=Vi l hl
  rcases k1 with rfl | ⟨-,a,b⟩
  ·rcases k2 with rfl | ⟨-,a,b⟩
   ·exact ⟨_,e1,e2,.inl rfl⟩
   ·exact absurd ⟨_,a,b⟩ h
  ·exact absurd ⟨_,a,b⟩ h
end D
namespace D
open Go.RowKit
theorem NA {e:EgT} (h:edOk e) {c:UInt8} (h1:c.toNat≠45) (h2:c.toNat<48):c∉py e:=by
 obtain ⟨-,-,-,h4⟩:=id h
 rw[Ep h]
 intro hm
 rcases aliasOf9 hm with hm | hm
 ·exact OY h1 (.inl h2) hm
 ·have e1:(UInt8.ofNat (48+e.2.1.toNat)).toNat=48+e.2.1.toNat:=by have:=h.2.1;simp;omega
  have e2:(UInt8.ofNat (97+e.2.2.2.toNat)).toNat=97+e.2.2.2.toNat:=by simp;omega
  have e3:(UInt8.ofNat (48+e.2.2.1.toNat)).toNat=48+e.2.2.1.toNat:=by have:=h.2.2.1;simp;omega
  have e4:(58:UInt8).toNat=58:=rfl
  simp only[List.mem_cons,List.not_mem_nil,or_false] at hm
  rcases hm with hm | hm | hm | hm <;> (have:=congrArg UInt8.toNat hm;omega)
theorem FV {c:ChT} (h:edOk c.2) {b:UInt8} (h1:b.toNat≠45) (h2:b.toNat<48) (h3:b.toNat≠43):b∉mf c:=by
 unfold mf
 intro hm
 rcases aliasOf8 hm with hm | hm
 ·have:=congrArg UInt8.toNat hm
  split at this
  ·exact h3 this
  ·exact h1 this
 ·exact NA h h1 h2 hm
theorem uF {c:UInt8} : ∀ {r:List (List UInt8)} {x:List UInt8},c∉x->(∀y∈r,c∉y)->mg c [] (x++Lib.joinTail [c] r)=x::r
 | [],x,hx,_=>by
  have:Lib.joinTail [c] [] = []:=by simp[Lib.joinTail]
  rw[this,List.append_nil,lq hx];rfl
 | y::r,x,hx,hr=>by
  have:Lib.joinTail [c] (y::r)=c::(y++Lib.joinTail [c] r):=by simp[Lib.joinTail]
  rw[this,nL hx,uF (hr y (by simp)) fun z hz=>hr z (aliasOf16 _ hz)];rfl
theorem Kz {l:List ChT} (h:vv l) (h0:l≠ []):mg 32 [] (btx l)=l.map mf:=by
 cases l with
 | nil=>exact absurd rfl h0
 | cons c r =>
  unfold btx
  rw[List.map_cons,Lib.join_cons]
  refine uF (FV (h c (by simp)) (by decide) (by decide) (by decide)) fun y hy=>?_
  obtain ⟨d,hd,rfl⟩:=List.mem_map.1 hy
  exact FV (h d (aliasOf16 _ hd)) (by decide) (by decide) (by decide)
theorem KB:btx [] = []:=by simp[btx,Lib.join_nil]
theorem O1 {l:List ChT} (h0:l≠ []):btx l≠ []:=by
 cases l with
 | nil=>exact absurd rfl h0
 | cons c r=>unfold btx;rw[List.map_cons,Lib.join_cons];simp[mf]
def TC (s:List UInt8) (r:(List ChT)×Bool):Prop:=r=([],false)\/r.2=true/\r.1.length<=6/\vv r.1/\s=btx r.1
theorem KD {p:List UInt8} (h:1<=p.length):l6 (mkB p) 1 (p.length:Int)=some (mkB (p.drop 1)):=by
 have:=slB (l:=p) (a:=1) (b:=p.length) h (al _)
 rw[List.take_length] at this
 exact this
theorem pA (p:List UInt8):(mkB p==(⟨#[]⟩:ByteArray))=decide (p= []):=by
 by_cases h:p= []
 ·subst h;rfl
 ·rw[decide_eq_false h,beq_eq_false_iff_ne]
  intro k
  exact h (tI (b:=[]) k)
open Classical in
theorem O2 {f:List ChT->Option ByteArray} (hf: ∀l,f l=some (if l.length<=6/\vv l then mkB (btx l) else mkB [])) {b:List ChT} {s:List UInt8} (h:s≠ []): ∃r:(List ChT)×Bool,((f b).bind fun r16=>if r16 !=mkB s then (some (([] :List ChT),false)) else (some (b,true)):Option ((List ChT)×Bool))=some r/\TC s r:=by
 rw[hf]
 simp only[aliasOf0]
 by_cases k:b.length<=6/\vv b
 ·rw[if_pos k]
  by_cases c:mkB (btx b)=mkB s
  ·rw[if_neg (by simp[c])];exact ⟨_,rfl,.inr ⟨rfl,k.1,k.2,(tI c).symm⟩⟩
  ·rw[if_pos (by simpa using c)];exact ⟨_,rfl,.inl rfl⟩
 ·rw[if_neg k,if_pos (by
   rw[bne_iff_ne]
   exact fun c=>h (tI c).symm)]
  exact ⟨_,rfl,.inl rfl⟩
theorem Vj (l:List UInt8) (hl:l.length<=1000000): ∃r,cT (mkB l)=some r/\(l= [] \/TC l r):=by
 unfold cT
 by_cases h0:l= []
 ·rw[pA,if_pos (decide_eq_true h0)];exact ⟨_,rfl,.inl h0⟩
 rw[pA,if_neg (by simpa using h0)]
 have ec:fH (mkB l) 32=some ((mg 32 [] l).map mkB):=sv l 32 hl
 rw[ec];simp only[aliasOf0]
 obtain ⟨o,e,hQ⟩:=cy (f:=bR ((mg 32 [] l).map mkB)) (fun i s=> ∃b:List ChT,s=((i:Int),b)/\b.length=i) (fun o=>o= .ret (([] :List ChT),false)\/ ∃s,o= .brk s) 7 (fun i s hi hI=>by
  obtain ⟨b,rfl,hb⟩:=hI
  unfold bR
  simp only[]
  by_cases h1:i<((mg 32 [] l).map mkB).length
  ·rw[bz h1,if_pos rfl]
   by_cases h7:i<=6
   ·rw[if_pos (decide_eq_true (by omega)),ax h1]
    simp only[aliasOf0]
    rw[List.length_map] at h1
    have hp:=pz 32 l [] _ (List.getElem_mem h1)
    rw[List.getElem_map]
    generalize (mg 32 [] l)[i] =p at hp⊢
    rw[aliasOf19] at hp
    rw[bh]
    by_cases h2:p.length<2
    ·rw[if_pos (decide_eq_true (by omega))]
     exact .inr ⟨_,rfl,fun s' h=>(by simp at h),.inl rfl⟩
    ·rw[if_neg (by simp;omega),KD (by omega)]
     simp only[aliasOf0]
     obtain ⟨r,er,-,-⟩:=Ky (p.drop 1) (by rw[aliasOf13];omega)
     rw[er]
     simp only[aliasOf0]
     have a0:gN (mkB p) 0=some ((p[0].toNat:Nat):Int):=atB (l:=p) (i:=0) (by omega)
     by_cases h3:r.2=true
     ·rw[if_pos h3,a0]
      simp only[aliasOf0]
      have hx: ∀z:ChT,cS 40 b [z] =some (b++ [z]):=fun z=>aD (by simp only[aliasOf6,aliasOf19];omega)
      rw[hx]
      simp only[aliasOf0]
      exact .inl ⟨by omega,_,rfl,_,by rw[af (by omega)],by simp;omega⟩
     ·rw[if_neg h3]
      exact .inr ⟨_,rfl,fun s' h=>(by simp at h),.inl rfl⟩
   ·rw[if_neg (by simp;omega)]
    exact .inr ⟨_,rfl,fun s' h=>(by simp at h),.inr ⟨_,rfl⟩⟩
  ·rw[if_neg (by simp only[decide_eq_true_eq];omega)]
   exact .inr ⟨_,rfl,fun s' h=>(by simp at h),.inr ⟨_,rfl⟩⟩) (s:=(0,([] :List ChT))) ⟨[],rfl,rfl⟩ (fO _ (by omega))
 rcases hQ with rfl | ⟨s,rfl⟩
 ·rw[bX e];exact ⟨_,rfl,.inr (.inl rfl)⟩
 ·rw[au e]
  obtain ⟨r,er,k⟩:=O2 (f:=cd) (fun l=>(p8 l).1) (b:=s.2) h0
  exact ⟨r,er,.inr k⟩
theorem Vk (l:List UInt8) (hl:l.length<=1000000): ∃r,cU (mkB l)=some r/\(l= [] \/TC l r):=by
 unfold cU
 by_cases h0:l= []
 ·rw[pA,if_pos (decide_eq_true h0)];exact ⟨_,rfl,.inl h0⟩
 rw[pA,if_neg (by simpa using h0)]
 have ec:bV (mkB l) (⟨#[32]⟩)=some ((mg 32 [] l).map mkB):=AZ l 32 hl
 rw[ec];simp only[aliasOf0]
 have hn:=AU 32 l []
 obtain ⟨o,e,hQ⟩:=cy (f:=bW ((mg 32 [] l).map mkB)) (fun i s=> ∃b:List ChT,s=((i:Int),b)/\b.length=i) (fun o=>o= .ret (([] :List ChT),false)\/ ∃s,o= .brk s) (mg 32 [] l).length (fun i s hi hI=>by
  obtain ⟨b,rfl,hb⟩:=hI
  unfold bW
  simp only[]
  by_cases h1:i<((mg 32 [] l).map mkB).length
  ·rw[bz h1,if_pos rfl,ax h1]
   simp only[aliasOf0]
   rw[List.length_map] at h1
   have hp:=pz 32 l [] _ (List.getElem_mem h1)
   rw[List.getElem_map]
   generalize (mg 32 [] l)[i] =p at hp⊢
   rw[aliasOf19] at hp
   rw[pA,bh]
   by_cases h2:p= []
   ·rw[if_pos (decide_eq_true h2)]
    exact .inr ⟨_,rfl,fun s' h=>(by simp at h),.inl rfl⟩
   ·have h2':1<=p.length:=List.length_pos_iff.2 h2
    rw[if_neg (by simpa using h2),KD h2']
    simp only[aliasOf0]
    obtain ⟨r,-,er,-⟩:=Ky (p.drop 1) (by rw[aliasOf13];omega)
    rw[er]
    simp only[aliasOf0]
    have a0:gN (mkB p) 0=some ((p[0].toNat:Nat):Int):=atB (l:=p) (i:=0) (by omega)
    by_cases h3:r.2=true
    ·rw[if_pos h3,a0]
     simp only[aliasOf0]
     have hx: ∀z:ChT,cS 40 b [z] =some (b++ [z]):=fun z=>aD (by simp only[aliasOf6,aliasOf19];omega)
     rw[hx]
     simp only[aliasOf0]
     exact .inl ⟨by omega,_,rfl,_,by rw[af (by omega)],by simp;omega⟩
    ·rw[if_neg h3]
     exact .inr ⟨_,rfl,fun s' h=>(by simp at h),.inl rfl⟩
  ·rw[if_neg (by simp only[decide_eq_true_eq];omega)]
   exact .inr ⟨_,rfl,fun s' h=>(by simp at h),.inr ⟨_,rfl⟩⟩) (s:=(0,([] :List ChT))) ⟨[],rfl,rfl⟩ (fO _ (by omega))
 rcases hQ with rfl | ⟨s,rfl⟩
 ·rw[bX e];exact ⟨_,rfl,.inr (.inl rfl)⟩
 ·rw[au e]
  obtain ⟨r,er,k⟩:=O2 (f:=c8) (fun l=>(p8 l).2) (b:=s.2) h0
  exact ⟨r,er,.inr k⟩
theorem KE {L:List ChT} (h:vv L) (h6:L.length<=6) {i:Nat} (hi:i<L.length):bR ((L.map mf).map mkB) ((i:Int),L.take i)=some (.nxt (((i+1:Nat):Int),L.take (i+1)))/\bW ((L.map mf).map mkB) ((i:Int),L.take i)=some (.nxt (((i+1:Nat):Int),L.take (i+1))):=by
 have hl:i<((L.map mf).map mkB).length:=by rw[List.length_map,List.length_map];exact hi
 have hk:edOk L[i].2:=h _ (List.getElem_mem hi)
 have hp:=p7 hk
 have eg:((L.map mf).map mkB)[i] =mkB (mf L[i]):=by simp
 obtain ⟨p1,p2⟩:=Q8 hk
 have hs:(mf L[i]).length=(py L[i].2).length+1:=by unfold mf;rw[aliasOf6]
 have h4:4<=(py L[i].2).length:=by rw[Ep hk];simp
 have ed:(mf L[i]).drop 1=py L[i].2:=rfl
 have a0:gN (mkB (mf L[i])) 0=some (((if L[i].1 then (43:UInt8) else 45).toNat:Nat):Int):=atB (l:=mf L[i]) (i:=0) (by omega)
 have hz:((((if L[i].1 then (43:UInt8) else 45).toNat:Nat):Int)==43)=L[i].1:=by
  generalize L[i].1=t
  cases t <;> rfl
 have hx: ∀z:ChT,cS 40 (L.take i) [z] =some (L.take i++ [z]):=fun z=>aD (by rw[aliasOf12];simp only[aliasOf6,aliasOf19];omega)
 have et:=List.take_succ_eq_append_getElem hi
 have st:=KD (p:=mf L[i]) (by omega)
 constructor
 ·unfold bR
  simp only[]
  rw[bz hl,if_pos rfl,if_pos (decide_eq_true (by omega)),ax hl,eg]
  simp only[aliasOf0]
  rw[bh,if_neg (by simp;omega),st,ed]
  simp only[aliasOf0]
  rw[p1]
  simp only[aliasOf0]
  rw[if_pos trivial,a0]
  simp only[aliasOf0]
  rw[hz,hx,af (by omega),et];rfl
 ·unfold bW
  simp only[]
  rw[bz hl,if_pos rfl,ax hl,eg]
  simp only[aliasOf0]
  rw[pA,if_neg (by simp[mf]),bh,st,ed]
  simp only[aliasOf0]
  rw[p2]
  simp only[aliasOf0]
  rw[if_pos trivial,a0]
  simp only[aliasOf0]
  rw[hz,hx,af (by omega),et];rfl
theorem SI {L:List ChT} (h:vv L) (h6:L.length<=6):cT (mkB (btx L))=some (L,true)/\cU (mkB (btx L))=some (L,true):=by
 by_cases h0:L= []
 ·subst h0
  unfold cT cU
  rw[KB]
  exact ⟨rfl,rfl⟩
 have hn:=AT h
 have hl:(btx L).length<=1000000:=by omega
 have eb: ∀s i:Option ByteArray,True:=fun _ _=>trivial
 obtain ⟨b1,b2⟩:=p8 L
 rw[if_pos ⟨h6,h⟩] at b1 b2
 have hs:=br (f:=bR ((L.map mf).map mkB)) (fun i=>((i:Int),L.take i)) L.length (fun i hi=>(KE h h6 hi).1) (by
  unfold bR
  simp only[]
  rw[if_neg (by simp)]) (fO _ (by omega))
 have hi:=br (f:=bW ((L.map mf).map mkB)) (fun i=>((i:Int),L.take i)) L.length (fun i hi=>(KE h h6 hi).2) (by
  unfold bW
  simp only[]
  rw[if_neg (by simp)]) (fO _ (by omega))
 rw[List.take_length] at hs hi
 constructor
 ·unfold cT
  have ec:fH (mkB (btx L)) 32=some ((mg 32 [] (btx L)).map mkB):=sv _ 32 hl
  rw[pA,if_neg (by simpa using O1 h0),ec,Kz h h0]
  simp only[aliasOf0]
  have hs:aq (bR ((L.map mf).map mkB)) aS (0,([] :List ChT))=_:=hs
  rw[au hs]
  simp only[]
  rw[b1]
  simp
 ·unfold cU
  have ec:bV (mkB (btx L)) (⟨#[32]⟩)=some ((mg 32 [] (btx L)).map mkB):=AZ _ 32 hl
  rw[pA,if_neg (by simpa using O1 h0),ec,Kz h h0]
  simp only[aliasOf0]
  have hi:aq (bW ((L.map mf).map mkB)) aS (0,([] :List ChT))=_:=hi
  rw[au hi]
  simp only[]
  rw[b2]
  simp
theorem Q9 (l:List UInt8) (hl:l.length<=1000000): ∃r,cT (mkB l)=some r/\cU (mkB l)=some r/\TC l r:=by
 by_cases h: ∃L:List ChT,L.length<=6/\vv L/\l=btx L
 ·obtain ⟨L,h6,hk,rfl⟩:=h
  exact ⟨_,(SI hk h6).1,(SI hk h6).2,.inr ⟨rfl,h6,hk,rfl⟩⟩
 ·have hne:l≠ []:=fun e=>h ⟨[],by simp,fun c hc=>by simp at hc,by rw[e,KB]⟩
  obtain ⟨r1,e1,k1⟩:=Vj l hl
  obtain ⟨r2,e2,k2⟩:=Vk l hl
  rcases k1 with k | rfl | ⟨-,a,b,c⟩
  ·exact absurd k hne
  ·rcases k2 with k | rfl | ⟨-,a,b,c⟩
   ·exact absurd k hne
   ·exact ⟨_,e1,e2,.inl rfl⟩
   ·exact absurd ⟨_,a,b,c⟩ h
  ·exact absurd ⟨_,a,b,c⟩ h
end D
namespace D
open Go.RowKit
def recT (v:Int) (b:List ChT):List UInt8:=((dq v b).getD ByteArray.empty).data.toList
theorem SJ (v:Int) (b:List ChT):dq v b=some (mkB (recT v b))/\fe v b=some (mkB (recT v b))/\(recT v b).length<=1000:=by
 obtain ⟨r,e1,e2,h⟩:=xz v b
 have e:mkB (recT v b)=r:=by unfold recT;rw[e1];exact AW r
 rw[<-e,bh] at h
 rw[e]
 exact ⟨e1,e2,h⟩
def totL (r:List Int) (q:List (List ChT)):Nat->Nat
 | 0=>0
 | i+1=>totL r q i+(recT (nth r (i:Int)) (nth q (i:Int))).length
theorem FW {r:List Int} {q:List (List ChT)} (h:q.length=r.length) (x:List Int) (y:List (List ChT)): ∀i,i<=r.length->totL (r++x) (q++y) i=totL r q i
 | 0,_=>rfl
 | i+1,hi=>by
  rw[totL,totL,FW h x y i (by omega),fP (by omega) (by omega),fP (by omega) (by omega)]
theorem KF {r:List Int} {q:List (List ChT)} (h:q.length=r.length) (v:Int) (b:List ChT):totL (r++ [v]) (q++ [b]) (r++ [v]).length=totL r q r.length+(recT v b).length:=by
 have e1:nth (r++ [v]) ((r.length:Nat):Int)=v:=by rw[bM (by simp)];simp
 have e2:nth (q++ [b]) ((r.length:Nat):Int)=b:=by rw[<-h,bM (by simp)];simp
 rw[aliasOf5,aliasOf6,aliasOf19,Nat.zero_add,totL,FW h _ _ _ (al _),e1,e2]
theorem KG (l:List UInt8) (hl:l.length<=1000000): ∃r:Int×List ChT×Bool,gA (mkB l)=some r/\gF (mkB l)=some r/\r.2.1.length<=6/\(-999999999<=r.1/\r.1<=999999999)/\(r.2.2=true->recT r.1 r.2.1=l):=by
 unfold gA gF
 have ec:fH (mkB l) 59=some ((mg 59 [] l).map mkB):=sv l 59 hl
 have ei:bV (mkB l) (⟨#[59]⟩)=some ((mg 59 [] l).map mkB):=AZ l 59 hl
 rw[ec,ei];simp only[aliasOf0]
 by_cases h3:(mg 59 [] l).length=3
 ·have hp:=pz 59 l []
  obtain ⟨a,b,c,e⟩:=Ug h3
  rw[e] at hp⊢
  have hb:=hp b (by simp)
  rw[aliasOf19] at hb
  simp only[List.map_cons,List.map_nil]
  have g0:aK [mkB a,mkB b,mkB c] 0=some (mkB a):=rfl
  have g1:aK [mkB a,mkB b,mkB c] 1=some (mkB b):=rfl
  rw[if_neg (by simp),if_neg (by simp)]
  obtain ⟨v,v1,v2,kv⟩:=nK (mkB a)
  obtain ⟨q,q1,q2,k⟩:=Q9 b (by omega)
  obtain ⟨t,t1,t2,-⟩:=xz v.1 q.1
  have hq:q.1.length<=6:=by
   rcases k with rfl | ⟨-,k,-⟩
   ·simp
   ·exact k
  have hv: -999999999<=v.1/\v.1<=999999999:=by
   rcases kv with ⟨-,k,-⟩ | rfl
   ·exact k
   ·decide
  simp only[g0,g1,v1,v2,q1,q2,t1,t2,aliasOf0]
  by_cases c1:v.2=true
  ·by_cases c2:q.2=true
   ·by_cases c3:(t !=mkB l)=true
    ·simp only[if_pos c1,if_pos c2,if_pos c3];exact ⟨_,rfl,rfl,by simp,by decide,fun c=>by cases c⟩
    ·simp only[if_pos c1,if_pos c2,if_neg c3];exact ⟨_,rfl,rfl,hq,hv,fun _=>by
      have e:t=mkB l:=by simpa using c3
      have e2:=(SJ v.1 q.1).1
      rw[t1,e] at e2
      exact (tI (aliasOf1 e2)).symm⟩
   ·simp only[if_pos c1,if_neg c2];exact ⟨_,rfl,rfl,by simp,by decide,fun c=>by cases c⟩
  ·simp only[if_neg c1];exact ⟨_,rfl,rfl,by simp,by decide,fun c=>by cases c⟩
 ·have k:(((List.map mkB (mg 59 [] l)).length:Int) !=3)=true:=by
   rw[bne_iff_ne,List.length_map];omega
  rw[if_pos k,if_pos k]
  exact ⟨_,rfl,rfl,by simp,by decide,fun c=>by cases c⟩
def ScOk (vs:List Int) (bs:List (List ChT)):Prop:=bs.length=vs.length/\(∀b∈bs,b.length<=6)/\ ∀v∈vs,(-999999999<=v/\v<=999999999)/\v<=nth vs ((vs.length:Int) - 1)
theorem NB (vs:List Int) (v:Int):nth (vs++ [v]) (((vs++ [v]).length:Int) - 1)=v:=by
 have e:(((vs++ [v]).length:Int) - 1)=((vs.length:Nat):Int):=by simp
 rw[e,bM (by simp)];simp
theorem ScOk.push {vs:List Int} {bs:List (List ChT)} (h:ScOk vs bs) {v:Int} {b:List ChT} (hb:b.length<=6) (hv: -999999999<=v/\v<=999999999) (hx:0<vs.length->v=IntKind.i64.wrap (nth vs ((vs.length:Int) - 1)+1)):ScOk (vs++ [v]) (bs++ [b]):=by
 obtain ⟨h1,h2,h3⟩:=h
 refine ⟨by simp;omega,fun d hd=>?_,fun d hd=>?_⟩
 ·rcases aliasOf9 hd with q | q
  ·exact h2 d q
  ·obtain rfl:=aliasOf7 q;exact hb
 ·rw[NB]
  rcases aliasOf9 hd with q | q
  ·have h0:0<vs.length:=List.length_pos_of_mem q
   obtain ⟨k1,k2⟩:=h3 d q
   obtain ⟨k3,-⟩:=h3 _ (iU (xs:=vs) (i:=(vs.length:Int) - 1) (by omega) (by omega))
   have:=hx h0
   rw[dI (by omega) (by omega)] at this
   exact ⟨k1,by omega⟩
  ·obtain rfl:=aliasOf7 q;exact ⟨hv,Int.le_refl _⟩
theorem A0 {l:List UInt8} (hl:l.length<=4000) {vs:List Int} {bs:List (List ChT)} {u:Int} : ∀(a r:List UInt8) (i k:Nat),(10:UInt8)∉a->l.drop i=a++r->i<=l.length->aq (aV (mkB l)) (k+a.length) (vs,bs,u,(i:Int))=aq (aV (mkB l)) k (vs,bs,u,((i+a.length:Nat):Int))
 | [],r,i,k,_,_,_=>rfl
 | x::a,r,i,k,hx,e,hi=>by
  have h1:i<l.length:=by
   have:=congrArg List.length e
   rw[aliasOf13,aliasOf5,aliasOf6] at this;omega
  have e0:=List.drop_eq_getElem_cons h1
  rw[e0,List.cons_append] at e
  obtain ⟨e1,e2⟩:=List.cons.inj e
  have hn:x.toNat≠10:=fun q=>hx (by
   have:x=10:=UInt8.toNat_inj.1 q
   rw[this];simp)
  have st:aV (mkB l) (vs,bs,u,(i:Int))=some (.nxt (vs,bs,u,((i+1:Nat):Int))):=by
   unfold aV
   simp only[]
   rw[bh,bz h1,if_pos rfl,if_pos (decide_eq_true (by omega)),atB h1,e1]
   simp only[aliasOf0]
   rw[if_pos (by rw[bne_iff_ne];omega),af (by omega)];rfl
  rw[aliasOf6,show k+(a.length+1)=(k+a.length)+1 by omega,aq,st]
  show aq _ (k+a.length) _=_
  rw[A0 hl a r (i+1) k (fun q=>hx (aliasOf16 _ q)) e2 h1,show i+1+a.length=i+(a.length+1) by omega]
theorem Ra {l:List UInt8} (hl:l.length<=4000): ∀(m p:Nat) (vs:List Int) (bs:List (List ChT)),l.length - p<m->p<=l.length->vs.length<=p->ScOk vs bs->totL vs bs vs.length<=p-> ∃(r:List Int) (q:List (List ChT)) (n:Nat),(∀k,l.length - p+1<=k->(aq (aV (mkB l)) k (vs,bs,(p:Int),(p:Int))=some (.ret (r,q,(n:Int)))\/ ∃i,aq (aV (mkB l)) k (vs,bs,(p:Int),(p:Int))=some (.brk (r,q,(n:Int),i)))/\aq (bL (mkB l)) k (vs,bs,(p:Int))=some (.brk (r,q,(n:Int))))/\n<=l.length/\r.length<=n/\ScOk r q/\totL r q r.length<=n:=by
 intro m
 induction m with
 | zero=>intro p vs bs hm;omega
 | succ m ih =>
  intro p vs bs hm hp hv hb ht
  have hbl:=hb.1
  have hsl:l6 (mkB l) (p:Int) (l.length:Int)=some (mkB (l.drop p)):=by
   rw[slB hp (al _),List.take_length]
  rcases p9 10 (l.drop p) with k | ⟨a,t,e,k⟩
  ·refine ⟨vs,bs,p,fun j hj=>⟨.inr ⟨(l.length:Int),?_⟩,?_⟩,hp,hv,hb,ht⟩
   ·have hd:(l.drop p).length=l.length - p:=aliasOf13 ..
    obtain ⟨j,rfl⟩: ∃j',j=(j'+1)+(l.drop p).length:=⟨j - 1 - (l.length - p),by omega⟩
    rw[A0 hl (l.drop p) [] p (j+1) k (by simp) hp,aq,hd,show p+(l.length - p)=l.length by omega]
    have:aV (mkB l) (vs,bs,(p:Int),(l.length:Int))=some (.brk (vs,bs,(p:Int),(l.length:Int))):=by
     unfold aV
     simp only[]
     rw[bh,if_neg (by simp)]
    rw[this]
   ·obtain ⟨j,rfl⟩: ∃j',j=j'+1:=⟨j - 1,by omega⟩
    have:bL (mkB l) (vs,bs,(p:Int))=some (.brk (vs,bs,(p:Int))):=by
     unfold bL
     simp only[]
     have ei:dB (mkB (l.drop p)) 10=some (-1):=by
      show some (Lib.indexByte _ 10)=_
      rw[dF,FU k]
     rw[bh,if_pos (decide_eq_true (by omega)),hsl]
     simp only[aliasOf0]
     rw[ei]
     simp only[aliasOf0]
     rw[if_pos (by decide)]
    rw[aq,this]
  ·have hlen:(l.drop p).length=l.length - p:=aliasOf13 ..
   rw[e,aliasOf5,aliasOf6] at hlen
   have hn:p+a.length<l.length:=by omega
   have hx:l[p+a.length] =10:=by
    have:(l.drop p)[a.length]? =some 10:=by rw[e];simp
    rw[List.getElem?_drop,List.getElem?_eq_getElem hn] at this
    exact aliasOf1 this
   obtain ⟨r,r1,r2,h6,h9,h8⟩:=KG ((l.take (p+a.length+1)).drop p) (by rw[aliasOf13,aliasOf12];omega)
   have es:l6 (mkB l) (p:Int) ((p+a.length+1:Nat):Int)=some (mkB ((l.take (p+a.length+1)).drop p)):=slB (by omega) (by omega)
   have ei:dB (mkB (l.drop p)) 10=some (a.length:Int):=by
    show some (Lib.indexByte _ 10)=_
    rw[dF,e,OX k]
   have w1:IntKind.i64.wrap ((IntKind.i64.wrap ((p:Int)+(a.length:Int)))+1)=((p+a.length+1:Nat):Int):=by
    rw[dI (n:=(p:Int)+(a.length:Int)) (by omega) (by omega),dI (by omega) (by omega)];omega
   have w2:IntKind.i64.wrap ((p:Int)+(IntKind.i64.wrap ((a.length:Int)+1)))=((p+a.length+1:Nat):Int):=by
    rw[dI (n:=(a.length:Int)+1) (by omega) (by omega),dI (by omega) (by omega)];omega
   have step:(aV (mkB l) (vs,bs,(p:Int),((p+a.length:Nat):Int))=some (.ret (vs,bs,(p:Int)))/\bL (mkB l) (vs,bs,(p:Int))=some (.brk (vs,bs,(p:Int))))\/(aV (mkB l) (vs,bs,(p:Int),((p+a.length:Nat):Int))=some (.nxt (vs++ [r.1],bs++ [r.2.1],((p+a.length+1:Nat):Int),((p+a.length+1:Nat):Int)))/\bL (mkB l) (vs,bs,(p:Int))=some (.nxt (vs++ [r.1],bs++ [r.2.1],((p+a.length+1:Nat):Int)))/\(0<vs.length->r.1=IntKind.i64.wrap (nth vs ((vs.length:Int) - 1)+1))/\r.2.2=true):=by
    have x1:cS 8 vs [r.1] =some (vs++ [r.1]):=aD (by simp only[aliasOf6,aliasOf19];omega)
    have x2:cS 24 bs [r.2.1] =some (bs++ [r.2.1]):=aD (by simp only[aliasOf6,aliasOf19];omega)
    unfold aV bL
    simp only[]
    rw[bh,bz hn,if_pos rfl,if_pos (decide_eq_true (by omega)),if_pos (decide_eq_true (by omega)),atB hn,hx,hsl]
    simp only[aliasOf0]
    rw[if_neg (by decide),ei,af (show p+a.length<9223372036854775807 by omega),es]
    simp only[aliasOf0]
    rw[r1,if_neg (by simp),w1,w2,es]
    simp only[aliasOf0]
    rw[r2]
    simp only[aliasOf0]
    by_cases c1:r.2.2=true
    ·rw[if_pos c1,if_pos c1]
     by_cases c2:decide ((vs.length:Int)>0)=true
     ·rw[if_pos c2,if_pos c2]
      have h0:0<vs.length:=by simpa using c2
      rw[mT (by omega),aA (xs:=vs) (by omega) (by omega)]
      simp only[aliasOf0]
      by_cases c3:(r.1 !=IntKind.i64.wrap (nth vs ((vs.length:Int) - 1)+1))=true
      ·rw[if_pos c3,if_pos c3];exact .inl ⟨rfl,rfl⟩
      ·rw[if_neg c3,if_neg c3,x1,x2];exact .inr ⟨rfl,rfl,(fun _=>by simpa using c3),c1⟩
     ·rw[if_neg c2,if_neg c2,x1,x2];exact .inr ⟨rfl,rfl,(fun h=>absurd (decide_eq_true (show (vs.length:Int)>0 by omega)) c2),c1⟩
    ·rw[if_neg c1,if_neg c1];exact .inl ⟨rfl,rfl⟩
   rcases step with ⟨s1,s2⟩ | ⟨s1,s2,s3,s4⟩
   ·refine ⟨vs,bs,p,fun j hj=>⟨.inl ?_,?_⟩,hp,hv,hb,ht⟩
    ·obtain ⟨j,rfl⟩: ∃j',j=(j'+1)+a.length:=⟨j - 1 - a.length,by omega⟩
     rw[A0 hl a (10::t) p (j+1) k e hp,aq,s1]
    ·obtain ⟨j,rfl⟩: ∃j',j=j'+1:=⟨j - 1,by omega⟩
     rw[aq,s2]
   ·have hT:totL (vs++ [r.1]) (bs++ [r.2.1]) (vs++ [r.1]).length<=p+a.length+1:=by
     rw[KF hbl,h8 s4,aliasOf13,aliasOf12];omega
    obtain ⟨R,Q,n,h1,h2,h3,h4⟩:=ih (p+a.length+1) (vs++ [r.1]) (bs++ [r.2.1]) (by omega) (by omega) (by simp;omega) (hb.push h6 h9 s3) hT
    refine ⟨R,Q,n,fun j hj=>⟨?_,?_⟩,h2,h3,h4⟩
    ·obtain ⟨j,rfl⟩: ∃j',j=(j'+1)+a.length:=⟨j - 1 - a.length,by omega⟩
     rw[A0 hl a (10::t) p (j+1) k e hp,aq,s1]
     exact (h1 j (by omega)).1
    ·obtain ⟨j,rfl⟩: ∃j',j=j'+1:=⟨j - 1,by omega⟩
     rw[aq,s2]
     exact (h1 j (by omega)).2
theorem pB (l:List UInt8) (hl:l.length<=1000000000): ∃(r:List Int) (q:List (List ChT)) (n:Nat),m_s_ScanLog (mkB l)=some (r,q,(n:Int))/\m_i_ScanLog (mkB l)=some (r,q,(n:Int))/\n<=l.length/\r.length<=4000/\ScOk r q/\totL r q r.length<=n:=by
 unfold m_s_ScanLog m_i_ScanLog
 by_cases h:l.length<=4000
 ·obtain ⟨r,q,n,h1,h2,h3,h4⟩:=Ra h (l.length+1) 0 [] [] (by omega) (by omega) (by simp) ⟨rfl,fun b hb=>(by cases hb),fun b hb=>(by cases hb)⟩ (Nat.zero_le _)
  obtain ⟨k1,k2⟩:=h1 aS (fO _ (by omega))
  have k2:aq (bL (mkB l)) aS (([] :List Int),([] :List (List ChT)),0)=some (.brk (r,q,(n:Int))):=k2
  refine ⟨r,q,n,?_,?_,h2,by omega,h4⟩
  ·rcases k1 with k1 | ⟨i,k1⟩
   ·have k1:aq (aV (mkB l)) aS (([] :List Int),([] :List (List ChT)),0,0)=_:=k1
    rw[bX k1]
   ·have k1:aq (aV (mkB l)) aS (([] :List Int),([] :List (List ChT)),0,0)=_:=k1
    rw[au k1]
  ·rw[au k2]
 ·have hf:=fO 100 (by omega)
  obtain ⟨k,hk⟩: ∃k,aS=k+1:=⟨aS - 1,by omega⟩
  have k1:aq (aV (mkB l)) aS (([] :List Int),([] :List (List ChT)),0,0)=some (.brk ([],[],0,0)):=by
   rw[hk,aq]
   have:aV (mkB l) (([] :List Int),([] :List (List ChT)),0,0)=some (.brk ([],[],0,0)):=by
    unfold aV
    simp only[]
    rw[bh,if_pos (decide_eq_true (by omega)),if_neg (by simp;omega)]
   rw[this]
  have k2:aq (bL (mkB l)) aS (([] :List Int),([] :List (List ChT)),0)=some (.brk ([],[],0)):=by
   rw[hk,aq]
   have:bL (mkB l) (([] :List Int),([] :List (List ChT)),0)=some (.brk ([],[],0)):=by
    unfold bL
    simp only[]
    rw[bh,if_neg (by simp;omega)]
   rw[this]
  rw[au k1,au k2]
  exact ⟨[],[],0,rfl,rfl,by omega,by simp,⟨rfl,fun b hb=>(by cases hb),fun b hb=>(by cases hb)⟩,al _⟩
end D
namespace D
open Go.RowKit
abbrev GrT:=(List Int)×(List Yq1)
theorem SK {R:Type} {f:Int->Option (Out R Int)} (N:Nat) (p:Nat->Prop) [DecidablePred p] (r:R) (hN:N<=9223372036854775807)
  (h: ∀i:Nat,i<N->f (i:Int)=some (if p i then .nxt ((i+1:Nat):Int) else .ret r)) (he:f (N:Int)=some (.brk (N:Int))) :
  (aq f aS 0=some (.brk (N:Int))/\ ∀i,i<N->p i)\/(aq f aS 0=some (.ret r)/\ ¬ ∀i,i<N->p i):=by
 obtain ⟨o,e,hq⟩:=cy (f:=f) (fun i s=>s=(i:Int)/\ ∀j:Nat,j<i->p j) (fun o=>(o= .brk (N:Int)/\ ∀i,i<N->p i)\/(o= .ret r/\ ¬ ∀i,i<N->p i)) N (s:=0) (by
  rintro i s hi ⟨rfl,hp⟩
  by_cases hl:i<N
  ·by_cases c:p i
   ·refine .inl ⟨hl,_,by rw[h i hl,if_pos c],rfl,fun j hj=>?_⟩
    by_cases e:j=i
    ·subst e;exact c
    ·exact hp j (by omega)
   ·exact .inr ⟨_,by rw[h i hl,if_neg c],(fun s' e=>by cases e),.inr ⟨rfl,fun hx=>c (hx i hl)⟩⟩
  ·obtain rfl:i=N:=by omega
   exact .inr ⟨_,he,(fun s' e=>by cases e),.inl ⟨rfl,hp⟩⟩) ⟨rfl,by omega⟩ (rm hN)
 rcases hq with ⟨rfl,hq⟩ | ⟨rfl,hq⟩
 ·exact .inl ⟨e,hq⟩
 ·exact .inr ⟨e,hq⟩
structure GOk (g:GrT):Prop where
 n1:1<=g.1.length
 n5:g.1.length<=5
 m:g.2.length<=12
 val: ∀v∈g.1,0<=v/\v<=2
 edge: ∀e∈g.2,(0<=e.2.1/\e.2.1<g.1.length)/\(0<=e.2.2.1/\e.2.2.1<g.1.length)/\0<=e.2.2.2/\e.2.2.2<=2
 asc: ∀i:Nat,i+1<g.2.length->(nth g.2 i).1<(nth g.2 ((i+1:Nat):Int)).1
def edgeP (e:Int×Int×Int×Int) (n:Int):Prop:=(1<=e.1/\e.1<=99)/\(0<=e.2.1/\e.2.1<=n - 1)/\(0<=e.2.2.1/\e.2.2.1<=n - 1)/\0<=e.2.2.2/\e.2.2.2<=2
instance (e n):Decidable (edgeP e n):=by unfold edgeP;infer_instance
theorem SL (e:Int×Int×Int×Int) {n:Nat} (hn:n<=1048576):gT e (n:Int)=some (decide (edgeP e n)):=by
 unfold gT edgeP
 simp only[C7,aliasOf0,mT (show n<=9223372036854775807 by omega)]
 by_cases c1:1<=e.1/\e.1<=99 <;> by_cases c2:0<=e.2.1/\e.2.1<=(n:Int) - 1 <;> by_cases c3:0<=e.2.2.1/\e.2.2.1<=(n:Int) - 1 <;> simp[c1,c2,c3]
theorem NC (g:GrT) (h1:g.1.length<=1048576) (h2:g.2.length<=1048576): ∃b,bN g=some b/\(b=true->GOk g):=by
 unfold bN
 have k0:=SK (f:=cZ g) g.1.length (fun i=>0<=nth g.1 i/\nth g.1 i<=2) false (by omega) (fun i hi=>by
  unfold cZ
  rw[if_pos (by simp;omega),aA (by omega) (by omega)];simp only[aliasOf0,C7,decide_eq_true_eq]
  split
  ·rw[af (by omega)]
  ·rfl) (by unfold cZ;rw[if_neg (by simp)])
 have k1:=SK (f:=cv g) g.2.length (fun i=>edgeP (nth g.2 i) g.1.length/\(0<i->(nth g.2 ((i:Int) - 1)).1<(nth g.2 i).1)) false (by omega) (fun i hi=>by
  unfold cv
  rw[if_pos (by simp;omega),aA (by omega) (by omega)];simp only[aliasOf0]
  have e1:=SL (nth g.2 (i:Int)) h1
  have e1:gT ((nth g.2 (i:Int)).1,(nth g.2 (i:Int)).2.1,(nth g.2 (i:Int)).2.2.1,(nth g.2 (i:Int)).2.2.2) (g.1.length:Int)=_:=e1
  rw[e1];simp only[aliasOf0,decide_eq_true_eq]
  by_cases c1:edgeP (nth g.2 (i:Int)) g.1.length
  ·rw[if_pos c1]
   by_cases c2:0<i
   ·rw[if_pos (by omega),mT (by omega),aA (by omega) (by omega)];simp only[aliasOf0]
    by_cases c3:(nth g.2 ((i:Int) - 1)).1<(nth g.2 (i:Int)).1
    ·rw[if_neg (by omega),if_pos ⟨c1,fun _=>c3⟩,af (by omega)]
    ·rw[if_pos (by omega),if_neg (fun h=>c3 (h.2 c2))]
   ·rw[if_neg (by omega),if_pos ⟨c1,fun h=>absurd h c2⟩,af (by omega)]
  ·rw[if_neg c1,if_neg (fun h=>c1 h.1)]) (by unfold cv;rw[if_neg (by simp)])
 rcases k0 with ⟨k0,j0⟩ | ⟨k0,j0⟩
 ·rw[au k0]
  rcases k1 with ⟨k1,j1⟩ | ⟨k1,j1⟩
  ·rw[au k1,C7];simp only[aliasOf0,decide_eq_true_eq]
   split
   ·rename_i c
    refine ⟨_,rfl,fun hb=>?_⟩
    have hb:=of_decide_eq_true hb
    refine ⟨by omega,by omega,by omega,fun v hv=>?_,fun e he=>?_,fun i hi=>?_⟩
    ·obtain ⟨i,hi,rfl⟩:=Em hv
     exact j0 i hi
    ·obtain ⟨i,hi,rfl⟩:=Em he
     obtain ⟨a1,a2,a3,a4⟩:=(j1 i hi).1
     exact ⟨⟨a2.1,by omega⟩,⟨a3.1,by omega⟩,a4⟩
    ·have:=(j1 (i+1) hi).2 (by omega)
     rwa [show (((i+1:Nat):Int) - 1)=(i:Int) from by omega] at this
   ·exact ⟨false,rfl,fun h=>by cases h⟩
  ·rw[bX k1];exact ⟨false,rfl,fun h=>by cases h⟩
 ·rw[bX k0];exact ⟨false,rfl,fun h=>by cases h⟩
end D
namespace D
open Go.RowKit
end D
namespace D
open Go.RowKit
section
variable {a:AutT} {n:Nat} (V:VA a n) (hn:n<=12)
include V hn
end
section
variable {a:AutT} {n:Nat} (V:VA a n) (hn:n<=12)
include V hn
end
section
variable {a:AutT} {n:Nat} (V:VA a n) (hn:n<=12)
include V
include hn
end
end D
namespace D
open Go.RowKit
section
variable {α:Type} {N:Nat} {F G:Nat->α}
end
abbrev EdT:=Int×Int×Int×Int
abbrev ArT:=(Int×Bool)×Int×Int
def inv (e:EdT):ArT:=((e.1,true),2*e.2.2.2+1,e.2.1)
end D
namespace D
open Go.RowKit
section
variable {g:GrT} {a:AutT} (G:GOk g) (V:VA a a.2.1.length) (hn:a.2.1.length<=12)
include G V hn
end
section
variable {g:GrT} {a:AutT} {F:Nat->List Int} {N:Nat}
end
section
variable {g:GrT} {a:AutT} (G:GOk g) (V:VA a a.2.1.length) (hn:a.2.1.length<=12)
include G V hn
end
end D
namespace D
open Go.RowKit
section
variable {a:AutT} {n:Nat} (V:VA a n) (hn:n<=12)
include V hn
end
section
variable {g:GrT} {a:AutT} (G:GOk g) (V:VA a a.2.1.length) (hn:a.2.1.length<=12)
include G V hn
end
end D
namespace D
open Go.RowKit
section
variable {nx:Int->List Int} {N:Nat} {v:Int} (hv:0<=v/\v<N) (hn: ∀x:Int,0<=x->x<N-> ∀y∈nx x,0<=y/\y<N)
include hv
include hn
end
end D
namespace D
open Go.RowKit
section
variable {nx:Int->List Int} {N:Nat} {v:Int} (hN:N<=60) (hv:0<=v/\v<N) (hn: ∀x:Int,0<=x->x<N-> ∀y∈nx x,0<=y/\y<N) (hl: ∀x,(nx x).length<=100000)
include hN hv hn hl
end
end D
namespace D
open Go.RowKit
end D
namespace D
open Go.RowKit
theorem KH (g:GrT):fa g=bN g:=by
 have h0:kO g=cZ g:=rfl
 have h1:gO g=cv g:=by
  funext s
  unfold gO cv
  split
  ·cases hx:aK g.2 s with
   | none=>rfl
   | some x=>rfl
  ·rfl
 unfold fa bN
 rw[h0,h1];rfl
def Uh (g:GrT) (a:AutT):Prop:=GOk g/\a.2.1.length<=12/\VA a a.2.1.length
section
variable {g:GrT} {a:AutT} (H:Uh g a)
include H
end
section
variable {g:GrT} {a:AutT} (H:Uh g a)
include H
end
section
variable {g:GrT} {a:AutT} (H:Uh g a) {x:Int} (hx:0<=x/\x<g.1.length)
include H hx
end
end D
namespace D
open Go.RowKit
abbrev Tok:=Int×Int×Int×Int
def ar (t:Tok):Int:=
 if t.1=1\/t.1=2 then (if t.2.1=0/\t.2.2.1=0/\t.2.2.2=0 then 0 else -1)
 else if t.1=3 then (if (0<=t.2.1/\t.2.1<=8)/\t.2.2.1=0/\t.2.2.2=0 then 0 else -1)
 else if t.1=4\/t.1=5 then (if t.2.1=0/\t.2.2.1=0/\t.2.2.2=0 then 2 else -1)
 else if t.1=6 then (if t.2.1=0/\t.2.2.1=0/\t.2.2.2=0 then 1 else -1)
 else if t.1=7 then (if t.2.1=0/\(0<=t.2.2.1/\t.2.2.1<=t.2.2.2)/\(1<=t.2.2.2/\t.2.2.2<=3) then 1 else -1)
 else -1
theorem ND (x:Int):jR x=some (decide (0<=x/\x<=8)):=by unfold jR;rw[HK];rfl
theorem NF (x:Int):gU x=some (decide (0<=x/\x<=8)):=by unfold gU;rw[C7];rfl
theorem U0 (t:Tok):kQ t=some (ar t):=by
 obtain ⟨k,l,lo,hi⟩:=t
 unfold kQ ar
 simp only[ND,HK,aliasOf0]
 by_cases h1:k=1
 ·subst h1;simp;grind
 by_cases h2:k=2
 ·subst h2;simp;grind
 by_cases h3:k=3
 ·subst h3;simp;grind
 by_cases h4:k=4
 ·subst h4;simp;grind
 by_cases h5:k=5
 ·subst h5;simp;grind
 by_cases h6:k=6
 ·subst h6;simp;grind
 by_cases h7:k=7
 ·subst h7;simp;grind
 simp[h1,h2,h3,h4,h5,h6,h7]
theorem SM (t:Tok):nA t=some (decide (0<=ar t)):=by
 obtain ⟨k,l,lo,hi⟩:=t
 unfold nA ar
 simp only[NF,C7,aliasOf0]
 by_cases h1:k=1
 ·subst h1;simp;grind
 by_cases h2:k=2
 ·subst h2;simp;grind
 by_cases h3:k=3
 ·subst h3;simp only[]
  by_cases a:0<=l/\l<=8 <;> by_cases b:lo=0 <;> by_cases c:hi=0 <;> simp[a,b,c]
 by_cases h4:k=4
 ·subst h4;simp;grind
 by_cases h5:k=5
 ·subst h5;simp;grind
 by_cases h6:k=6
 ·subst h6;simp;grind
 by_cases h7:k=7
 ·subst h7;simp only[]
  by_cases a:l=0 <;> by_cases b:0<=lo/\lo<=hi <;> by_cases c:1<=hi/\hi<=3 <;> simp[a,b,c]
 simp[h1,h2,h3,h4,h5,h6,h7]
theorem sw (t:Tok): -1<=ar t/\ar t<=2:=by
 unfold ar
 grind
theorem lr {t:Tok} (h:0<=ar t):(ar t=2/\(t.1=4\/t.1=5))\/(ar t=1/\(t.1=6\/t.1=7))\/(ar t=0/\(t.1=1\/t.1=2\/t.1=3)):=by
 unfold ar at h⊢
 grind
theorem xA {t:Tok} (h:0<=ar t) (k:t.1=7):(0<=t.2.2.1/\t.2.2.1<=t.2.2.2)/\(1<=t.2.2.2/\t.2.2.2<=3):=by
 unfold ar at h
 grind
mutual
def flat:Tr Tok->List Tok
 | .nil=>[]
 | .node t ks=>gP ks++ [t]
def gP:List (Tr Tok)->List Tok
 | [] =>[]
 | k::ks=>flat k++gP ks
end
inductive WT:Tr Tok->Prop
 | node {t:Tok} {ks:List (Tr Tok)} :ar t=(ks.length:Int)->(∀k,k∈ks->WT k)->WT (.node t ks)
theorem mV: ∀(a b:List (Tr Tok)),gP (a++b)=gP a++gP b
 | [],b=>rfl
 | k::a,b=>by rw[List.cons_append,gP,gP,mV a b,aliasOf4]
theorem j4 (x:Tr Tok):gP [x] =flat x:=by rw[gP,gP,List.append_nil]
theorem KI (x y:Tr Tok):gP [x,y] =flat x++flat y:=by rw[gP,j4]
theorem WT.cases {x:Tr Tok} (h:WT x):(∃t,x= .node t [] /\ar t=0)\/(∃t a,x= .node t [a] /\ar t=1/\WT a)\/ ∃t a b,x= .node t [a,b] /\ar t=2/\WT a/\WT b:=by
 cases h with
 | @node t ks h1 h2 =>
  have:=(sw t).2
  match ks,h1,h2 with
  | [],h1,h2=>exact .inl ⟨t,rfl,h1⟩
  | [a],h1,h2=>exact .inr (.inl ⟨t,a,rfl,h1,h2 a (by simp)⟩)
  | [a,b],h1,h2=>exact .inr (.inr ⟨t,a,b,rfl,h1,h2 a (by simp),h2 b (by simp)⟩)
  | _::_::_::_,h1,h2=>simp at h1;omega
theorem WT.ind {p:Tr Tok->Prop} (h0: ∀t,ar t=0->p (.node t [])) (h1: ∀t a,ar t=1->WT a->p a->p (.node t [a])) (h2: ∀t a b,ar t=2->WT a->WT b->p a->p b->p (.node t [a,b])) {x:Tr Tok} (h:WT x):p x:=by
 induction h with
 | @node t ks e k ih =>
  have:=(sw t).2
  match ks,e,k,ih with
  | [],e,k,ih=>exact h0 t e
  | [a],e,k,ih=>exact h1 t a e (k a (by simp)) (ih a (by simp))
  | [a,b],e,k,ih=>exact h2 t a b e (k a (by simp)) (k b (by simp)) (ih a (by simp)) (ih b (by simp))
  | _::_::_::_,e,_,_=>simp at e;omega
theorem yz (t:Tok):flat (.node t [])= [t]:=by rw[flat,gP];rfl
theorem A1 (t:Tok) (a:Tr Tok):flat (.node t [a])=flat a++ [t]:=by rw[flat,j4]
theorem ri (t:Tok) (a b:Tr Tok):flat (.node t [a,b])=(flat a++flat b)++ [t]:=by rw[flat,KI]
theorem WT.pos {x:Tr Tok} (h:WT x):1<=(flat x).length:=by
 cases h with
 | node h1 h2=>rw[flat];simp
def stp (s:List (Tr Tok)) (t:Tok):Option (List (Tr Tok)):=if ar t<0\/(s.length:Int)<ar t then none else some (s.take (s.length - (ar t).toNat)++ [.node t (s.drop (s.length - (ar t).toNat))])
def run:List (Tr Tok)->List Tok->Option (List (Tr Tok))
 | s,[] =>some s
 | s,t::l=>(stp s t).bind fun s'=>run s' l
theorem A2: ∀(a:List Tok) {b:List Tok} {s:List (Tr Tok)},run s (a++b)=(run s a).bind fun s'=>run s' b
 | [],b,s=>rfl
 | t::a,b,s=>by
  rw[List.cons_append,run,run]
  cases stp s t with
  | none=>rfl
  | some s'=>exact A2 a
theorem sx {a:List Tok} {t:Tok} {s:List (Tr Tok)} :run s (a++ [t])=(run s a).bind fun s'=>stp s' t:=by
 rw[A2]
 congr 1
 funext s'
 rw[run]
 cases stp s' t <;> rfl
theorem O3: ∀ {l:List Tok} {s s':List (Tr Tok)},run s l=some s'->(∀k,k∈s->WT k)->(∀k,k∈s'->WT k)/\gP s'=gP s++l
 | [],s,s',h,hs=>by
  obtain rfl:=aliasOf1 h
  exact ⟨hs,by simp⟩
 | t::l,s,s',h,hs=>by
  rw[run] at h
  unfold stp at h
  by_cases c:ar t<0\/(s.length:Int)<ar t
  ·rw[if_pos c] at h;cases h
  ·rw[if_neg c] at h
   have hlen:(s.drop (s.length - (ar t).toNat)).length=(ar t).toNat:=by rw[aliasOf13];omega
   obtain ⟨k1,k2⟩:=O3 (show run _ l=some s' from h) fun k hk=>by
    rcases aliasOf9 hk with hk | hk
    ·exact hs k (List.mem_of_mem_take hk)
    ·obtain rfl:=aliasOf7 hk
     exact .node (by rw[hlen];omega) fun k hk=>hs k (List.mem_of_mem_drop hk)
   refine ⟨k1,?_⟩
   rw[k2,mV,j4,flat,<-aliasOf4,<-mV,List.take_append_drop]
   simp
theorem NG {x:Tr Tok} (h:WT x): ∀s,run s (flat x)=some (s++ [x]):=by
 refine WT.ind (p:=fun x=> ∀s,run s (flat x)=some (s++ [x])) ?_ ?_ ?_ h
 ·intro t e s
  rw[yz,run,stp,if_neg (by omega),e]
  simp[run]
 ·intro t a e _ ia s
  rw[A1,sx,ia]
  show stp (s++ [a]) t=_
  rw[stp,if_neg (by simp;omega),e]
  simp
 ·intro t a b e _ _ ia ib s
  rw[ri,sx,A2,ia]
  show ((run (s++ [a]) (flat b)).bind fun s'=>stp s' t)=_
  rw[ib]
  show stp (s++ [a] ++ [b]) t=_
  rw[stp,if_neg (by simp;omega),e]
  have:(s++ [a] ++ [b]).length - (2:Int).toNat=s.length:=by simp
  rw[this]
  simp
def isX (e:List Tok):Bool:=match run [] e with
 | some [_] =>true
 | _=>false
theorem KJ {e:List Tok} (h:isX e=true): ∃x,run [] e=some [x] /\WT x/\flat x=e:=by
 unfold isX at h
 split at h
 ·rename_i x hx
  obtain ⟨k1,k2⟩:=O3 hx (fun k hk=>by cases hk)
  refine ⟨x,hx,k1 x (by simp),?_⟩
  rw[j4] at k2
  rw[k2];rfl
 ·cases h
theorem KK {l:List Tok} : ∀ {s s':List (Tr Tok)},run s l=some s'->s'.length<=s.length+l.length:=by
 induction l with
 | nil=>intro s s' h;obtain rfl:=aliasOf1 h;simp
 | cons t l ih =>
  intro s s' h
  rw[run] at h
  obtain ⟨s1,h1,h2⟩:=Option.bind_eq_some_iff.1 h
  have h3:=ih h2
  unfold stp at h1
  split at h1
  ·cases h1
  ·obtain rfl:=aliasOf1 h1
   simp only[aliasOf5,aliasOf12,aliasOf6,aliasOf19] at h3⊢
   omega
theorem xB {e:List Tok} {i:Nat} (h:i<e.length):e.take (i+1)=e.take i++ [nth e (i:Int)]:=by
 rw[List.take_succ_eq_append_getElem h,bM h]
theorem vx {e:List Tok} {i:Nat} (h:i<e.length) {st:List (Tr Tok)} (h1:run [] (e.take i)=some st) (h2:stp st (nth e (i:Int))=none):run [] e=none:=by
 have:run [] (e.take (i+1))=none:=by rw[xB h,sx,h1];exact h2
 rw[<-List.take_append_drop (i+1) e,A2,this];rfl
theorem NH {e:List Tok} (he:e.length<=1048576):pP e=some (isX e):=by
 obtain ⟨o,eo,hq⟩:=cy (f:=np e) (fun i s=> ∃st,s=((st.length:Int),(i:Int))/\run [] (e.take i)=some st) (fun o=>(o= .ret false/\run [] e=none)\/ ∃st,o= .brk ((st.length:Int),(e.length:Int))/\run [] e=some st) e.length (s:=(0,0)) (by
  rintro i s hi ⟨st,rfl,hst⟩
  have hl:=KK hst
  simp only[aliasOf19,aliasOf12] at hl
  unfold np
  simp only[eE]
  by_cases c:i<e.length
  ·rw[if_pos (by simp;omega),aA (by omega) (by omega)];simp only[aliasOf0]
   rw[U0];simp only[aliasOf0]
   have hr:=sw (nth e (i:Int))
   by_cases c1:ar (nth e (i:Int))<0
   ·refine .inr ⟨_,by rw[if_pos (by simpa using c1)],(fun s' e=>by cases e),.inl ⟨rfl,vx c hst ?_⟩⟩
    rw[stp,if_pos (.inl c1)]
   ·rw[if_neg (by simpa using c1)]
    by_cases c2:ar (nth e (i:Int))>(st.length:Int)
    ·refine .inr ⟨_,by rw[if_pos (by simpa using c2)],(fun s' e=>by cases e),.inl ⟨rfl,vx c hst ?_⟩⟩
     rw[stp,if_pos (.inr c2)]
    ·rw[if_neg (by simpa using c2)]
     refine .inl ⟨c,_,rfl,st.take (st.length - (ar (nth e (i:Int))).toNat)++ [.node (nth e (i:Int)) (st.drop (st.length - (ar (nth e (i:Int))).toNat))],?_,?_⟩
     ·rw[dI (n:=(st.length:Int) - ar (nth e (i:Int))) (by omega) (by omega),dI (by omega) (by omega),af (by omega)]
      congr 1
      simp only[aliasOf5,aliasOf12,aliasOf6,aliasOf19]
      omega
     ·rw[xB c,sx,hst]
      show stp st _=_
      rw[stp,if_neg (by omega)]
  ·obtain rfl:i=e.length:=by omega
   rw[List.take_of_length_le (by omega)] at hst
   exact .inr ⟨_,by rw[if_neg (by simp)],(fun s' e=>by cases e),.inr ⟨st,rfl,hst⟩⟩) ⟨[],rfl,rfl⟩ (rm (by omega))
 unfold pP
 rcases hq with ⟨rfl,h⟩ | ⟨st,rfl,h⟩
 ·rw[bX eo];unfold isX;rw[h]
 ·rw[au eo];unfold isX;rw[h]
  match st with
  | [] =>rfl
  | [_] =>rfl
  | _::_::_=>simp;omega
theorem Ui {t:Tok} (h:0<=ar t):(Option.bind ((if t.1==4 then (some (t.1==4)) else (some (t.1==5)):Option Bool)) (fun s3=>if s3 then (some 2) else (Option.bind ((if t.1==6 then (some (t.1==6)) else (some (t.1==7)):Option Bool)) (fun s4=>if s4 then (some 1) else (some 0)))):Option Int)=some (ar t):=by
 rcases lr h with ⟨e,k | k⟩ | ⟨e,k | k⟩ | ⟨e,k | k | k⟩ <;> rw[e] <;> simp[k]
theorem Rb (t:Tok): ∃n:Int,(Option.bind ((if t.1==4 then (some (t.1==4)) else (some (t.1==5)):Option Bool)) (fun s3=>if s3 then (some 2) else (Option.bind ((if t.1==6 then (some (t.1==6)) else (some (t.1==7)):Option Bool)) (fun s4=>if s4 then (some 1) else (some 0)))):Option Int)=some n:=by
 by_cases h4:t.1=4
 ·exact ⟨2,by simp[h4]⟩
 by_cases h5:t.1=5
 ·exact ⟨2,by simp[h5]⟩
 by_cases h6:t.1=6
 ·exact ⟨1,by simp[h6]⟩
 by_cases h7:t.1=7
 ·exact ⟨1,by simp[h7]⟩
 exact ⟨0,by simp[h4,h5,h6,h7]⟩
def vd (e:List Tok):Tr Tok:=match run [] e with
 | some [x] =>x
 | _=>.nil
theorem A3 {e:List Tok} (he:e.length<=1048576):kE e=some (vd e):=by
 obtain ⟨o,eo,hq⟩:=cy (f:=nB e) (fun i s=> ∃st,s=(st,(i:Int))/\run [] (e.take i)=some st) (fun o=>(o= .ret Tr.nil/\run [] e=none)\/ ∃st,o= .brk (st,(e.length:Int))/\run [] e=some st) e.length (s:=([],0)) (by
  rintro i s hi ⟨st,rfl,hst⟩
  have hl:=KK hst
  simp only[aliasOf19,aliasOf12] at hl
  unfold nB
  simp only[eE]
  by_cases c:i<e.length
  ·rw[if_pos (by simp;omega),aA (by omega) (by omega)];simp only[aliasOf0]
   have hr:=sw (nth e (i:Int))
   by_cases c1:ar (nth e (i:Int))<0
   ·obtain ⟨n,hn⟩:=Rb (nth e (i:Int))
    rw[hn];simp only[aliasOf0]
    rw[SM];simp only[aliasOf0]
    refine .inr ⟨_,by rw[if_neg (by simp;omega)],(fun s' e=>by cases e),.inl ⟨rfl,vx c hst ?_⟩⟩
    rw[stp,if_pos (.inl c1)]
   ·rw[Ui (by omega)];simp only[aliasOf0]
    rw[SM];simp only[aliasOf0]
    rw[if_pos (by simp;omega),dI (n:=(st.length:Int) - ar (nth e (i:Int))) (by omega) (by omega)]
    by_cases c2:ar (nth e (i:Int))>(st.length:Int)
    ·refine .inr ⟨_,by rw[if_pos (by simp;omega)],(fun s' e=>by cases e),.inl ⟨rfl,vx c hst ?_⟩⟩
     rw[stp,if_pos (.inr c2)]
    ·rw[if_neg (by simp;omega),show∀p:Prop,∀ [Decidable p],p->chk p=some () from fun p _ hp=>by unfold chk;rw[if_pos hp]]
     ·simp only[aliasOf0]
      have e1:((st.length:Int) - ar (nth e (i:Int))).toNat=st.length - (ar (nth e (i:Int))).toNat:=by omega
      rw[e1,aD (by simp;omega)];simp only[aliasOf0]
      rw[aD (by simp;omega)];simp only[aliasOf0,List.nil_append,af (show i<9223372036854775807 by omega)]
      refine .inl ⟨c,_,rfl,_,rfl,?_⟩
      rw[xB c,sx,hst]
      show stp st _=_
      rw[stp,if_neg (by omega)]
     ·omega
  ·obtain rfl:i=e.length:=by omega
   rw[List.take_of_length_le (by omega)] at hst
   exact .inr ⟨_,by rw[if_neg (by simp)],(fun s' e=>by cases e),.inr ⟨st,rfl,hst⟩⟩) ⟨[],rfl,rfl⟩ (rm (by omega))
 unfold kE
 rcases hq with ⟨rfl,h⟩ | ⟨st,rfl,h⟩
 ·rw[bX eo];unfold vd;rw[h]
 ·rw[au eo];unfold vd;rw[h]
  match st with
  | [] =>rfl
  | [x] =>rfl
  | _::_::_ =>
   simp only
   rw[if_pos (by simp;omega)]
theorem tJ {x:Tr Tok} (h:WT x):vd (flat x)=x:=by unfold vd;rw[NG h];rfl
theorem NI {e:List Tok} (he:e.length<=1048576):pS e=some (isX e):=by
 unfold pS
 rw[A3 he];simp only[aliasOf0]
 congr 1
 by_cases h:isX e=true
 ·rw[h]
  obtain ⟨x,h1,h2,h3⟩:=KJ h
  have:vd e=x:=by unfold vd;rw[h1]
  rw[this]
  cases h2 with
  | node _ _=>rfl
 ·have:vd e= .nil:=by
   unfold vd
   unfold isX at h
   split
   ·rename_i x hx;rw[hx] at h;exact absurd rfl h
   ·rfl
  rw[this,Bool.eq_false_iff.2 h];rfl
theorem Er {e:List Tok} (he:e.length<=1048576):iB e=some (decide (e.length<=24)&&isX e):=by
 unfold iB
 rw[NH he]
 by_cases c:e.length<=24
 ·rw[if_pos (by simp;omega)];simp[c]
 ·rw[if_neg (by simp;omega)];simp[c]
theorem Es {e:List Tok} (he:e.length<=1048576):iH e=some (decide (e.length<=24)&&isX e):=by
 unfold iH
 rw[NI he]
 by_cases c:e.length<=24
 ·rw[if_pos (by simp;omega)];simp[c]
 ·rw[if_neg (by simp;omega)];simp[c]
theorem kl {p:Prop} [Decidable p] (h:p):chk p=some ():=by unfold chk;rw[if_pos h]
theorem Rc {A:List Tok} {x:Tr Tok} (hx:WT x) (hl:(A++flat x).length<=1000000):fB (A++flat x)=some (A.length:Int):=by
 obtain ⟨s',e,ks,q1,q2,q3⟩: ∃s',aq (jy (A++flat x)) aS (1,((A++flat x).length:Int))=some (.brk s')/\ ∃ks:List (Tr Tok),ks= [] /\s'.2=(A.length:Int)/\True:=by
  obtain ⟨o,eo,hq⟩:=cy (f:=jy (A++flat x)) (fun i s=> ∃ks:List (Tr Tok),(∀k,k∈ks->WT k)/\s=((ks.length:Int),(((A++gP ks).length:Nat):Int))/\i+(gP ks).length=(flat x).length/\(A++flat x).take (A++gP ks).length=A++gP ks) (fun o=> ∃s',o= .brk s'/\s'.2=(A.length:Int)) (flat x).length (s:=(1,((A++flat x).length:Int))) (by
   rintro i s hi ⟨ks,hw,rfl,hlen,htk⟩
   unfold jy
   simp only[eE]
   rcases List.eq_nil_or_concat ks with rfl | ⟨ks',y,rfl⟩
   ·refine .inr ⟨_,by rw[if_neg (by simp)],(fun s' e=>by cases e),_,rfl,?_⟩
    simp[gP]
   ·have hy:=hw y (by simp)
    cases hy with
    | @node t cs h1 h2 =>
     have hfl:gP (ks'++ [.node t cs])=gP (ks'++cs)++ [t]:=by rw[mV,j4,flat,mV,aliasOf4]
     rw[List.concat_eq_append,hfl] at hlen htk⊢
     simp only[aliasOf5,aliasOf6,aliasOf19] at hlen htk hl⊢
     rw[if_pos (by simp <;> omega)]
     have hpos:IntKind.i64.wrap (((A.length+((gP (ks'++cs)).length+1):Nat):Int) - 1)=((A.length+(gP (ks'++cs)).length:Nat):Int):=by
      rw[dI (by omega) (by omega)];omega
     have hget:nth (A++flat x) ((A.length+(gP (ks'++cs)).length:Nat):Int)=t:=by
      have hlt:A.length+(gP (ks'++cs)).length<(A++flat x).length:=by rw[aliasOf5];omega
      have e1:=congrArg (fun l:List Tok=>l[A.length+(gP (ks'++cs)).length]?) htk
      rw[List.getElem?_take_of_lt (by omega),List.getElem?_eq_getElem hlt,<-aliasOf4,List.getElem?_append_right (by rw[aliasOf5];omega),aliasOf5] at e1
      rw[bM hlt]
      simpa using e1
     rw[hpos,aA (by omega) (by simp only[aliasOf5];omega),hget];simp only[aliasOf0]
     rw[U0,h1];simp only[aliasOf0]
     have hcl:(cs.length:Int)<=2:=by rw[<-h1];exact (sw t).2
     have hkl:ks'.length<=(gP (ks'++cs)).length+1000000:=by
      have: ∀l:List (Tr Tok),(∀k,k∈l->WT k)->l.length<=(gP l).length:=by
       intro l
       induction l with
       | nil=>intro _;simp
       | cons k l ih =>
        intro h
        have h1:=(h k (by simp)).pos
        have h2:=ih fun k hk=>h k (by simp[hk])
        rw[gP];simp only[aliasOf6,aliasOf5];omega
      have:=this ks' fun k hk=>hw k (by simp[hk])
      rw[mV,aliasOf5];omega
     refine .inl ⟨by omega,_,rfl,ks'++cs,fun k hk=>?_,?_,by omega,?_⟩
     ·rcases aliasOf9 hk with hk | hk
      ·exact hw k (by simp[hk])
      ·exact h2 k hk
     ·rw[dI (n:=((ks'.length+1:Nat):Int) - 1) (by omega) (by omega),dI (by omega) (by omega)]
      congr 1
      (simp only[aliasOf5]) <;> omega
     ·have e1:=congrArg (List.take (A++gP (ks'++cs)).length) htk
      rw[List.take_take,Nat.min_eq_left (by rw[aliasOf5];omega),<-aliasOf4,List.take_left] at e1
      rw[aliasOf5] at e1
      exact e1) ⟨[x],fun k hk=>by (obtain rfl:=aliasOf7 hk;exact hx),by rw[j4];rfl,by rw[j4];omega,by rw[j4,List.take_length]⟩ (rm (by rw[aliasOf5] at hl;omega))
  obtain ⟨s',rfl,h2⟩:=hq
  exact ⟨s',eo,[],rfl,h2,trivial⟩
 unfold fB
 rw[au e,q2]
end D
namespace D
open Go.RowKit
instance trInh {α:Type} :Inhabited (Tr α):=⟨.nil⟩
def szX:Tr Tok->Int
 | .nil=>0
 | .node t ks=>min (szL t 1 ks) 100000
where szL (t:Tok) (acc:Int):List (Tr Tok)->Int
 | [] =>acc
 | k::ks=>szL t (acc+(if t.1=7 then (szX k+3)*t.2.2.2 else szX k)) ks
theorem dG {x:Tr Tok} (h:WT x):1<=szX x/\szX x<=100000:=by
 refine WT.ind (p:=fun x=>1<=szX x/\szX x<=100000) ?_ ?_ ?_ h
 ·intro t _
  show 1<=min (1:Int) 100000/\min (1:Int) 100000<=100000
  omega
 ·intro t a e _ ih
  show 1<=min ((1:Int)+(if t.1=7 then (szX a+3)*t.2.2.2 else szX a)) 100000/\min ((1:Int)+(if t.1=7 then (szX a+3)*t.2.2.2 else szX a)) 100000<=100000
  split
  ·rename_i k
   have hr:=xA (show 0<=ar t by omega) k
   have:0<=(szX a+3)*t.2.2.2:=Int.mul_nonneg (by omega) (by omega)
   omega
  ·omega
 ·intro t a b e _ _ iha ihb
  have k:t.1≠7:=by
   rcases lr (show 0<=ar t by omega) with ⟨_,k⟩ | ⟨k,_⟩ | ⟨k,_⟩ <;> omega
  show 1<=min ((1:Int)+(if t.1=7 then (szX a+3)*t.2.2.2 else szX a)+(if t.1=7 then (szX b+3)*t.2.2.2 else szX b)) 100000/\min ((1:Int)+(if t.1=7 then (szX a+3)*t.2.2.2 else szX a)+(if t.1=7 then (szX b+3)*t.2.2.2 else szX b)) 100000<=100000
  rw[if_neg k,if_neg k]
  omega
theorem CW {a h:Int} (h1:1<=a/\a<=100000) (h2:1<=h/\h<=3):IntKind.i64.wrap ((IntKind.i64.wrap (a+3))*h)=(a+3)*h:=by
 rw[dI (n:=a+3) (by omega) (by omega)]
 have k1:0<=(a+3)*h:=Int.mul_nonneg (by omega) (by omega)
 have k2:(a+3)*h<=100003*3:=Int.mul_le_mul (by omega) (by omega) (by omega) (by omega)
 exact dI (by omega) (by omega)
theorem KL {a h:Int} (h1:1<=a/\a<=100000) (h2:1<=h/\h<=3):0<=(a+3)*h/\(a+3)*h<=300009:=by
 have k1:0<=(a+3)*h:=Int.mul_nonneg (by omega) (by omega)
 have k2:(a+3)*h<=100003*3:=Int.mul_le_mul (by omega) (by omega) (by omega) (by omega)
 omega
theorem mW {t:Tok} {ks:List (Tr Tok)} :Tr.get (.node t ks)=some (t,ks):=rfl
theorem tK {f:Tr Tok->Option Int} {t:Tok} {ks:List (Tr Tok)} {i:Nat} {acc:Int} (hi:i<ks.length) (hf:f (nth ks (i:Int))=some (szX (nth ks (i:Int)))) (hw:WT (nth ks (i:Int))) (ht:0<=ar t) (ha:0<=acc/\acc<=1000000) (hik:i<=1000000) :
  ba f (.node t ks) (t,ks) (acc,(i:Int))=some (.nxt (acc+(if t.1=7 then (szX (nth ks (i:Int))+3)*t.2.2.2 else szX (nth ks (i:Int))),((i+1:Nat):Int))):=by
 unfold ba
 simp only[mW]
 have hr:=dG hw
 rw[if_pos (by simp <;> omega),aA (by omega) (by omega)];simp only[aliasOf0]
 by_cases k:t.1=7
 ·have h7:=xA ht k
  have hm:=KL hr h7.2
  rw[if_pos (by simpa using k),if_pos k,hf];simp only[aliasOf0]
  rw[CW hr h7.2,dI (by omega) (by omega),af (by omega)]
 ·rw[if_neg (by simpa using k),if_neg k,hf];simp only[aliasOf0]
  rw[dI (by omega) (by omega),af (by omega)]
theorem vy {α:Type} [Inhabited α] {a:α} {l:List α} :nth (a::l) ((0:Nat):Int)=a:=rfl
theorem KM {α:Type} [Inhabited α] {a b:α} {l:List α} :nth (a::b::l) ((1:Nat):Int)=b:=rfl
theorem Rd {x:Tr Tok} (h:WT x): ∀n,(flat x).length<=n->bq n x=some (szX x):=by
 refine WT.ind (p:=fun x=> ∀n,(flat x).length<=n->bq n x=some (szX x)) ?_ ?_ ?_ h
 ·intro t e n hn
  rw[yz] at hn
  match n,hn with
  | n+1,_ =>
   rw[bq];simp only[mW,aliasOf0]
   have hL:aq (ba (bq n) (.node t []) (t,[])) aS (1,0)=some (.brk (1,0)):=br (f:=ba (bq n) (.node t []) (t,[])) (fun i=>(1,(i:Int))) 0 (fun i hi=>by omega) (by unfold ba;simp) (by unfold aS;omega)
   rw[au hL]
   all_goals rfl
 ·intro t a e wa ih n hn
  rw[A1,aliasOf5] at hn
  match n,hn with
  | n+1,hn =>
   have hr:=dG wa
   rw[bq];simp only[mW,aliasOf0]
   have hL:aq (ba (bq n) (.node t [a]) (t,[a])) aS (1,0)=some (.brk (szX.szL t 1 [a],1)):=br (f:=ba (bq n) (.node t [a]) (t,[a])) (fun i=>(szX.szL t 1 ([a].take i),(i:Int))) 1 (fun i hi=>by
    obtain rfl:i=0:=by omega
    exact tK (acc:=1) (i:=0) (by simp) (ih n (by simp at hn;omega)) wa (by omega) (by omega) (by omega)) (by unfold ba;simp) (by unfold aS;omega)
   rw[au hL]
   all_goals rfl
 ·intro t a b e wa wb iha ihb n hn
  rw[ri,aliasOf5,aliasOf5] at hn
  match n,hn with
  | n+1,hn =>
   have hra:=dG wa
   have hrb:=dG wb
   have k:t.1≠7:=by
    rcases lr (show 0<=ar t by omega) with ⟨_,k⟩ | ⟨k,_⟩ | ⟨k,_⟩ <;> omega
   rw[bq];simp only[mW,aliasOf0]
   have hL:aq (ba (bq n) (.node t [a,b]) (t,[a,b])) aS (1,0)=some (.brk (szX.szL t 1 [a,b],2)):=br (f:=ba (bq n) (.node t [a,b]) (t,[a,b])) (fun i=>(szX.szL t 1 ([a,b].take i),(i:Int))) 2 (fun i hi=>by
    have:i=0\/i=1:=by omega
    rcases this with rfl | rfl
    ·exact tK (acc:=1) (i:=0) (by simp) (iha n (by simp at hn;omega)) wa (by omega) (by omega) (by omega)
    ·exact tK (acc:=1+(if t.1=7 then (szX a+3)*t.2.2.2 else szX a)) (i:=1) (by simp) (ihb n (by simp at hn;omega)) wb (by omega) (by rw[if_neg k];omega) (by omega)) (by unfold ba;simp) (by unfold aS;omega)
   rw[au hL]
   all_goals rfl
theorem kD {A:List Tok} {t:Tok} (h:A.length<=1000000):aK (A++ [t]) (IntKind.i64.wrap (((A++ [t]).length:Int) - 1))=some t/\IntKind.i64.wrap (((A++ [t]).length:Int) - 1)=(A.length:Int):=by
 have e:IntKind.i64.wrap (((A++ [t]).length:Int) - 1)=(A.length:Int):=by
  rw[dI (by simp only[aliasOf5,aliasOf6,aliasOf19];omega) (by simp only[aliasOf5,aliasOf6,aliasOf19];omega)]
  simp only[aliasOf5,aliasOf6,aliasOf19];omega
 refine ⟨?_,e⟩
 rw[e,aA (by omega) (by simp only[aliasOf5,aliasOf6,aliasOf19];omega),bM (by simp)]
 simp
theorem U1 {t:Tok} (h:ar t=2):(if t.1==4 then (some (t.1==4)) else (some (t.1==5)):Option Bool)=some true:=by
 rcases lr (show 0<=ar t by omega) with ⟨_,k | k⟩ | ⟨e,_⟩ | ⟨e,_⟩
 ·simp[k]
 ·simp[k]
 ·omega
 ·omega
theorem NJ {t:Tok} (h:ar t=1\/ar t=0):(if t.1==4 then (some (t.1==4)) else (some (t.1==5)):Option Bool)=some false:=by
 rcases lr (show 0<=ar t by omega) with ⟨e,k⟩ | ⟨e,k | k⟩ | ⟨e,k | k | k⟩
 ·omega
 all_goals simp[k]
theorem SN {t:Tok} (h:ar t=0):(t.1==6)=false/\(t.1==7)=false:=by
 rcases lr (show 0<=ar t by omega) with ⟨e,k⟩ | ⟨e,k | k⟩ | ⟨e,k | k | k⟩
 ·omega
 ·omega
 ·omega
 all_goals simp[k]
theorem NK {t:Tok} (h:ar t=1):((t.1==6)=true/\t.1=6)\/((t.1==6)=false/\(t.1==7)=true/\t.1=7):=by
 rcases lr (show 0<=ar t by omega) with ⟨e,k⟩ | ⟨e,k | k⟩ | ⟨e,k | k | k⟩
 ·omega
 ·left;simp[k]
 ·right;simp[k]
 all_goals omega
theorem xC {a b:Tr Tok} {t:Tok} (wb:WT b) (hl:((flat a++flat b)++ [t]).length<=1000000) :
  (((flat a++flat b)++ [t]).take ((((flat a++flat b).length:Nat):Int)).toNat)=flat a++flat b /\
  fB (flat a++flat b)=some (((flat a).length:Nat):Int) /\
  (((flat a++flat b)++ [t]).take ((((flat a).length:Nat):Int)).toNat)=flat a /\
  (flat a++flat b).drop ((((flat a).length:Nat):Int)).toNat=flat b:=by
 refine ⟨?_,Rc wb (by simp only[aliasOf5,aliasOf6,aliasOf19] at hl⊢;omega),?_,?_⟩
 ·rw[Int.toNat_natCast,List.take_left]
 ·rw[Int.toNat_natCast,aliasOf4,List.take_left]
 ·rw[Int.toNat_natCast,List.drop_left]
theorem SO {x:Tr Tok} (h:WT x): ∀n,(flat x).length<=n->(flat x).length<=1000000->cY n (flat x)=some (szX x):=by
 refine WT.ind (p:=fun x=> ∀n,(flat x).length<=n->(flat x).length<=1000000->cY n (flat x)=some (szX x)) ?_ ?_ ?_ h
 ·intro t e n hn hl
  rw[yz] at hn hl⊢
  match n,hn with
  | n+1,_ =>
   have hk:=SN e
   rw[cY]
   have:=(kD (A:=[]) (t:=t) (by simp)).1
   rw[List.nil_append] at this
   rw[this];simp only[aliasOf0]
   rw[NJ (.inr e)];simp only[aliasOf0,hk.1,hk.2,Bool.false_eq_true,if_false]
   rfl
 ·intro t a e wa ih n hn hl
  rw[A1] at hn hl⊢
  simp only[aliasOf5,aliasOf6,aliasOf19] at hn hl
  match n,hn with
  | n+1,hn =>
   have hr:=dG wa
   rw[cY]
   obtain ⟨l1,l2⟩:=kD (A:=flat a) (t:=t) (by omega)
   rw[l1];simp only[aliasOf0]
   rw[NJ (.inl e)];simp only[aliasOf0,Bool.false_eq_true,if_false]
   rw[l2,Int.toNat_natCast,List.take_left,kl (by simp only[aliasOf5,aliasOf6,aliasOf19];omega)];simp only[aliasOf0]
   rw[ih n (by omega) (by omega)];simp only[aliasOf0]
   rcases NK e with ⟨k1,k2⟩ | ⟨k1,k2,k3⟩
   ·rw[if_pos k1,dI (by omega) (by omega)]
    show some (min 100000 (szX a+1))=some (min ((1:Int)+(if t.1=7 then (szX a+3)*t.2.2.2 else szX a)) 100000)
    rw[if_neg (by omega)]
    congr 1;omega
   ·have h7:=xA (show 0<=ar t by omega) k3
    have hm:=KL hr h7.2
    rw[if_neg (by simp[k1]),if_pos k2,CW hr h7.2,dI (by omega) (by omega)]
    show some (min 100000 ((szX a+3)*t.2.2.2+1))=some (min ((1:Int)+(if t.1=7 then (szX a+3)*t.2.2.2 else szX a)) 100000)
    rw[if_pos k3]
    congr 1;omega
 ·intro t a b e wa wb iha ihb n hn hl
  rw[ri] at hn hl⊢
  obtain ⟨p1,p2,p3,p4⟩:=xC (a:=a) (t:=t) wb hl
  simp only[aliasOf5,aliasOf6,aliasOf19] at hn hl
  match n,hn with
  | n+1,hn =>
   have hra:=dG wa
   have hrb:=dG wb
   have k:t.1≠7:=by
    rcases lr (show 0<=ar t by omega) with ⟨_,k⟩ | ⟨k,_⟩ | ⟨k,_⟩ <;> omega
   rw[cY]
   obtain ⟨l1,l2⟩:=kD (A:=flat a++flat b) (t:=t) (by rw[aliasOf5];omega)
   rw[l1];simp only[aliasOf0]
   rw[U1 e];simp only[aliasOf0,if_true]
   rw[l2,p1,p2,kl (by simp only[aliasOf5,aliasOf6,aliasOf19];omega)];simp only[aliasOf0]
   rw[kl (by simp only[aliasOf5,aliasOf6,aliasOf19];omega),p3,p4];simp only[aliasOf0]
   rw[iha n (by omega) (by omega),kl (by simp only[aliasOf5,aliasOf6,aliasOf19];omega)];simp only[aliasOf0]
   rw[ihb n (by have:=wa.pos;omega) (by omega)];simp only[aliasOf0]
   rw[dI (n:=szX a+szX b) (by omega) (by omega),dI (by omega) (by omega)]
   show some (min 100000 (szX a+szX b+1))=some (min ((1:Int)+(if t.1=7 then (szX a+3)*t.2.2.2 else szX a)+(if t.1=7 then (szX b+3)*t.2.2.2 else szX b)) 100000)
   rw[if_neg k,if_neg k]
   congr 1;omega
def NL:Tr Tok:=.node (2,0,0,0) []
def Et (x:Tr Tok):Nat->Int->Tr Tok
 | 0,_=>NL
 | h+1,low=>if 0<low then .node (4,0,0,0) [x,Et x h (max 0 (low - 1))] else .node (5,0,0,0) [.node (4,0,0,0) [x,Et x h (max 0 (low - 1))],NL]
mutual
def oC:Tr Tok->Tr Tok
 | .nil=>.nil
 | .node t ks=>if t.1=7 then Et ((Ll ks).headD .nil) t.2.2.2.toNat t.2.2.1 else .node t (Ll ks)
def Ll:List (Tr Tok)->List (Tr Tok)
 | [] =>[]
 | k::ks=>oC k::Ll ks
end
theorem ar4:ar (4,0,0,0)=2:=by decide
theorem ar5:ar (5,0,0,0)=2:=by decide
theorem ar2:ar (2,0,0,0)=0:=by decide
theorem KN:WT NL:=.node ar2 fun k hk=>by cases hk
theorem sy:flat NL= [(2,0,0,0)]:=yz _
theorem WT.two {t:Tok} {a b:Tr Tok} (h:ar t=2) (ha:WT a) (hb:WT b):WT (.node t [a,b]):=.node h fun k hk=>by
 rcases aliasOf8 hk with rfl | hk
 ·exact ha
 ·obtain rfl:=aliasOf7 hk
  exact hb
theorem WT.one {t:Tok} {a:Tr Tok} (h:ar t=1) (ha:WT a):WT (.node t [a]):=.node h fun k hk=>by
 obtain rfl:=aliasOf7 hk
 exact ha
theorem Eu {x:Tr Tok} (hx:WT x): ∀(h:Nat) (low:Int),WT (Et x h low)
 | 0,_=>KN
 | h+1,low=>by
  rw[Et]
  split
  ·exact .two ar4 hx (Eu hx h _)
  ·exact .two ar5 (.two ar4 hx (Eu hx h _)) KN
theorem A4 (x:Tr Tok): ∀(h:Nat) (low:Int),(flat (Et x h low)).length<=((flat x).length+3)*h+1
 | 0,_=>by rw[Et,sy];simp
 | h+1,low=>by
  have ih:=A4 x h (max 0 (low - 1))
  rw[Et]
  split
  ·rw[ri];simp only[aliasOf5,aliasOf6,aliasOf19]
   rw[Nat.mul_succ];omega
  ·rw[ri,ri,sy];simp only[aliasOf5,aliasOf6,aliasOf19]
   rw[Nat.mul_succ];omega
theorem TE {t:Tok} {a:Tr Tok} :oC (.node t [a])=if t.1=7 then Et (oC a) t.2.2.2.toNat t.2.2.1 else .node t [oC a]:=by rw[oC,Ll,Ll];rfl
theorem exp2 {t:Tok} {a b:Tr Tok} (h:t.1≠7):oC (.node t [a,b])= .node t [oC a,oC b]:=by rw[oC,if_neg h,Ll,Ll,Ll]
theorem TG {t:Tok} (h:t.1≠7):oC (.node t [])= .node t []:=by rw[oC,if_neg h,Ll]
theorem no7 {t:Tok} (h:ar t=2\/ar t=0):t.1≠7:=by
 rcases lr (show 0<=ar t by omega) with ⟨_,k⟩ | ⟨k,_⟩ | ⟨_,k⟩ <;> omega
theorem O4 {x:Tr Tok} (h:WT x):WT (oC x):=by
 refine WT.ind (p:=fun x=>WT (oC x)) ?_ ?_ ?_ h
 ·intro t e
  rw[TG (no7 (.inr e))]
  exact .node e fun k hk=>by cases hk
 ·intro t a e _ ih
  rw[TE]
  split
  ·exact Eu ih _ _
  ·exact .one e ih
 ·intro t a b e _ _ iha ihb
  rw[exp2 (no7 (.inl e))]
  exact .two e iha ihb
theorem A5 {x:Tr Tok} (h:WT x):szX x<100000->((flat (oC x)).length:Int)<=szX x:=by
 refine WT.ind (p:=fun x=>szX x<100000->((flat (oC x)).length:Int)<=szX x) ?_ ?_ ?_ h
 ·intro t e _
  rw[TG (no7 (.inr e)),yz]
  show (1:Int)<=min 1 100000
  omega
 ·intro t a e wa ih hs
  have hr:=dG wa
  have hs':min ((1:Int)+(if t.1=7 then (szX a+3)*t.2.2.2 else szX a)) 100000<100000:=hs
  show _<=min ((1:Int)+(if t.1=7 then (szX a+3)*t.2.2.2 else szX a)) 100000
  rw[TE]
  by_cases k:t.1=7
  ·rw[if_pos k] at hs'⊢
   rw[if_pos k]
   have h7:=xA (show 0<=ar t by omega) k
   have hge:szX a+3<=(szX a+3)*t.2.2.2:=by
    have:=Int.mul_le_mul_of_nonneg_left (c:=szX a+3) h7.2.1 (by omega)
    omega
   have h1:=ih (by omega)
   have h2:=A4 (oC a) t.2.2.2.toNat t.2.2.1
   have h3:(((flat (oC a)).length+3)*t.2.2.2.toNat:Int)<=(szX a+3)*t.2.2.2:=by
    rw[Int.toNat_of_nonneg (by omega)]
    exact Int.mul_le_mul_of_nonneg_right (by omega) (by omega)
   have h4:((flat (Et (oC a) t.2.2.2.toNat t.2.2.1)).length:Int)<=(((flat (oC a)).length+3)*t.2.2.2.toNat:Int)+1:=by exact_mod_cast h2
   omega
  ·rw[if_neg k] at hs'⊢
   rw[if_neg k,A1]
   have h1:=ih (by omega)
   simp only[aliasOf5,aliasOf6,aliasOf19]
   omega
 ·intro t a b e wa wb iha ihb hs
  have hra:=dG wa
  have hrb:=dG wb
  have k:=no7 (.inl e)
  have hs':min ((1:Int)+(if t.1=7 then (szX a+3)*t.2.2.2 else szX a)+(if t.1=7 then (szX b+3)*t.2.2.2 else szX b)) 100000<100000:=hs
  show _<=min ((1:Int)+(if t.1=7 then (szX a+3)*t.2.2.2 else szX a)+(if t.1=7 then (szX b+3)*t.2.2.2 else szX b)) 100000
  rw[if_neg k,if_neg k] at hs'⊢
  rw[exp2 k,ri]
  have h1:=iha (by omega)
  have h2:=ihb (by omega)
  simp only[aliasOf5,aliasOf6,aliasOf19]
  omega
theorem zz {x:Tr Tok} : ∀(h n:Nat) (low:Int),h<n->h<=3->0<=low->low<=3->gV n x low (h:Int)=some (Et x h low)
 | 0,n+1,low,_,_,_,_=>by
  rw[gV,if_pos (by rfl)];rfl
 | h+1,n+1,low,h1,h2,h3,h4=>by
  rw[gV,if_neg (by simp;omega),dI (n:=low - 1) (by omega) (by omega),dI (n:=((h+1:Nat):Int) - 1) (by omega) (by omega)]
  rw[show ((h+1:Nat):Int) - 1=(h:Int) from by omega,zz h n (max 0 (low - 1)) (by omega) (by omega) (by omega) (by omega)];simp only[aliasOf0]
  rw[Et]
  by_cases c:0<low
  ·rw[if_pos (by simpa using c),if_pos c]
  ·rw[if_neg (by simpa using c),if_neg c];rfl
theorem FX {a b:List Tok} {t:Tok} (h:a.length+b.length<=1000000):jh a b t=some ((a++b)++ [t]):=by
 unfold jh jg
 rw[aD (by simp only[aliasOf5,aliasOf6,aliasOf19];omega)];simp only[aliasOf0,List.nil_append]
 rw[aD (by omega)];simp only[aliasOf0]
 rw[aD (by simp only[aliasOf5,aliasOf6,aliasOf19];omega)];rfl
theorem KO {x:Tr Tok} : ∀(h n:Nat) (low:Int),h<n->h<=3->0<=low->low<=3->(flat x).length<=100000->gR n (flat x) low (h:Int)=some (flat (Et x h low))
 | 0,n+1,low,_,_,_,_,_=>by
  rw[gR,if_pos (by rfl),Et,sy];rfl
 | h+1,n+1,low,h1,h2,h3,h4,h5=>by
  rw[gR,if_neg (by simp;omega),dI (n:=low - 1) (by omega) (by omega),dI (n:=((h+1:Nat):Int) - 1) (by omega) (by omega)]
  rw[show ((h+1:Nat):Int) - 1=(h:Int) from by omega,KO h n (max 0 (low - 1)) (by omega) (by omega) (by omega) (by omega) h5];simp only[aliasOf0]
  have hl:=A4 x h (max 0 (low - 1))
  have hl3:((flat x).length+3)*h<=100003*3:=Nat.mul_le_mul (by omega) (by omega)
  rw[FX (by omega),Et];simp only[aliasOf0]
  by_cases c:0<low
  ·rw[if_pos (by simpa using c),if_pos c,ri]
  ·rw[if_neg (by simpa using c),if_neg c,ri,ri,sy]
   show (mw 2).bind _=_
   unfold mw;simp only[aliasOf0]
   rw[FX (by simp only[aliasOf5,aliasOf6,aliasOf19];omega)];rfl
theorem sA:1000000000000<=e7:=by rw[LA];unfold aS;omega
theorem NM {x:Tr Tok} (h:WT x): ∀n,(flat x).length<=n->aY n x=some (oC x):=by
 have hF:=sA
 refine WT.ind (p:=fun x=> ∀n,(flat x).length<=n->aY n x=some (oC x)) ?_ ?_ ?_ h
 ·intro t e n hn
  rw[yz] at hn
  have k:=no7 (.inr e)
  match n,hn with
  | n+1,_ =>
   rw[aY];simp only[mW,aliasOf0]
   rw[if_neg (by simpa using k),TG k]
   have hL:aq (aU (aY n) (t,[])) aS (0,t.1,t.2.1,t.2.2.1,t.2.2.2,[])=some (.brk (0,t.1,t.2.1,t.2.2.1,t.2.2.2,[])):=br (f:=aU (aY n) (t,[])) (fun i=>((i:Int),t.1,t.2.1,t.2.2.1,t.2.2.2,Ll (([] :List (Tr Tok)).take i))) 0 (fun i hi=>by omega) (by unfold aU;simp) (by unfold aS;omega)
   rw[au hL]
   all_goals rfl
 ·intro t a e wa ih n hn
  rw[A1,aliasOf5] at hn
  match n,hn with
  | n+1,hn =>
   have ia:=ih n (by simp at hn;omega)
   rw[aY,TE];simp only[mW,aliasOf0]
   rcases NK e with ⟨k1,k2⟩ | ⟨k1,k2,k3⟩
   ·rw[if_neg (by simp;omega),if_neg (by omega)]
    have hL:aq (aU (aY n) (t,[a])) aS (0,t.1,t.2.1,t.2.2.1,t.2.2.2,[])=some (.brk (1,t.1,t.2.1,t.2.2.1,t.2.2.2,[oC a])):=br (f:=aU (aY n) (t,[a])) (fun i=>((i:Int),t.1,t.2.1,t.2.2.1,t.2.2.2,[oC a].take i)) 1 (fun i hi=>by
     obtain rfl:i=0:=by omega
     unfold aU
     simp only
     rw[if_pos (by simp),aA (by omega) (by simp),vy];simp only[aliasOf0]
     rw[ia];simp only[aliasOf0]
     rw[aD (by simp)];rfl) (by unfold aU;simp) (by unfold aS;omega)
    rw[au hL]
    all_goals rfl
   ·have h7:=xA (show 0<=ar t by omega) k3
    rw[if_pos k2,if_pos k3,show aK [a] 0=some a from rfl];simp only[aliasOf0]
    rw[ia];simp only[aliasOf0]
    have:=zz (x:=oC a) t.2.2.2.toNat e7 t.2.2.1 (by omega) (by omega) (by omega) (by omega)
    rw[Int.toNat_of_nonneg (by omega)] at this
    rw[this];rfl
 ·intro t a b e wa wb iha ihb n hn
  rw[ri,aliasOf5,aliasOf5] at hn
  have k:=no7 (.inl e)
  match n,hn with
  | n+1,hn =>
   have ia:=iha n (by simp at hn;omega)
   have ib:=ihb n (by simp at hn;omega)
   rw[aY,exp2 k];simp only[mW,aliasOf0]
   rw[if_neg (by simpa using k)]
   have hL:aq (aU (aY n) (t,[a,b])) aS (0,t.1,t.2.1,t.2.2.1,t.2.2.2,[])=some (.brk (2,t.1,t.2.1,t.2.2.1,t.2.2.2,[oC a,oC b])):=br (f:=aU (aY n) (t,[a,b])) (fun i=>((i:Int),t.1,t.2.1,t.2.2.1,t.2.2.2,[oC a,oC b].take i)) 2 (fun i hi=>by
    have:i=0\/i=1:=by omega
    rcases this with rfl | rfl
    ·unfold aU
     simp only
     rw[if_pos (by simp),aA (by omega) (by simp),vy];simp only[aliasOf0]
     rw[ia];simp only[aliasOf0]
     rw[aD (by simp)];rfl
    ·unfold aU
     simp only
     rw[if_pos (by simp),aA (by omega) (by simp),KM];simp only[aliasOf0]
     rw[ib];simp only[aliasOf0]
     rw[aD (by simp)];rfl) (by unfold aU;simp) (by unfold aS;omega)
   rw[au hL]
   all_goals rfl
theorem KP {x:Tr Tok} (h:WT x): ∀n out,(flat x).length<=n->out.length+(flat x).length<=1000000->aW n x out=some (out++flat x):=by
 refine WT.ind (p:=fun x=> ∀n out,(flat x).length<=n->out.length+(flat x).length<=1000000->aW n x out=some (out++flat x)) ?_ ?_ ?_ h
 ·intro t e n out hn hl
  rw[yz] at hn hl⊢
  simp only[aliasOf6,aliasOf19] at hl
  match n,hn with
  | n+1,_ =>
   rw[aW];simp only[mW,aliasOf0]
   have hL:aq (aP (aW n) (t,[])) aS (0,out)=some (.brk (0,out)):=br (f:=aP (aW n) (t,[])) (fun i=>((i:Int),out)) 0 (fun i hi=>by omega) (by unfold aP;simp) (by unfold aS;omega)
   rw[au hL]
   simp only
   rw[aD (by simp;omega)];rfl
 ·intro t a e wa ih n out hn hl
  rw[A1] at hn hl⊢
  simp only[aliasOf5,aliasOf6,aliasOf19] at hn hl
  match n,hn with
  | n+1,hn =>
   rw[aW];simp only[mW,aliasOf0]
   have hL:aq (aP (aW n) (t,[a])) aS (0,out)=some (.brk (1,out++flat a)):=br (f:=aP (aW n) (t,[a])) (fun i=>((i:Int),if i=0 then out else out++flat a)) 1 (fun i hi=>by
    obtain rfl:i=0:=by omega
    unfold aP
    simp only
    rw[if_pos (by simp),aA (by omega) (by simp),vy];simp only[aliasOf0,if_true]
    rw[ih n _ (by omega) (by omega)];rfl) (by unfold aP;simp) (by unfold aS;omega)
   rw[au hL]
   simp only
   rw[aD (by simp;omega)];simp
 ·intro t a b e wa wb iha ihb n out hn hl
  rw[ri] at hn hl⊢
  simp only[aliasOf5,aliasOf6,aliasOf19] at hn hl
  match n,hn with
  | n+1,hn =>
   rw[aW];simp only[mW,aliasOf0]
   have hL:aq (aP (aW n) (t,[a,b])) aS (0,out)=some (.brk (2,(out++flat a)++flat b)):=br (f:=aP (aW n) (t,[a,b])) (fun i=>((i:Int),if i=0 then out else if i=1 then out++flat a else (out++flat a)++flat b)) 2 (fun i hi=>by
    have:i=0\/i=1:=by omega
    rcases this with rfl | rfl
    ·unfold aP
     simp only
     rw[if_pos (by simp),aA (by omega) (by simp),vy];simp only[aliasOf0,if_true]
     rw[iha n _ (by omega) (by omega)];rfl
    ·unfold aP
     simp only
     rw[if_pos (by simp),aA (by omega) (by simp),KM];simp only[aliasOf0,if_true]
     rw[ihb n _ (by omega) (by simp;omega)];rfl) (by unfold aP;simp) (by unfold aS;omega)
   rw[au hL]
   simp only
   rw[aD (by simp;omega)];simp
theorem NN {x:Tr Tok} (h:WT x): ∀n,(flat x).length<=n->(flat x).length<=1000000->szX x<=50000->b9 n (flat x)=some (flat (oC x)):=by
 have hF:=sA
 refine WT.ind (p:=fun x=> ∀n,(flat x).length<=n->(flat x).length<=1000000->szX x<=50000->b9 n (flat x)=some (flat (oC x))) ?_ ?_ ?_ h
 ·intro t e n hn hl hs
  rw[yz] at hn hl⊢
  match n,hn with
  | n+1,_ =>
   have hk:=SN e
   rw[b9]
   have:=(kD (A:=[]) (t:=t) (by simp)).1
   rw[List.nil_append] at this
   rw[this];simp only[aliasOf0]
   rw[NJ (.inr e)];simp only[aliasOf0,hk.1,hk.2,Bool.false_eq_true,if_false]
   rw[TG (no7 (.inr e)),yz]
 ·intro t a e wa ih n hn hl hs
  have hs':min ((1:Int)+(if t.1=7 then (szX a+3)*t.2.2.2 else szX a)) 100000<=50000:=hs
  rw[A1] at hn hl⊢
  simp only[aliasOf5,aliasOf6,aliasOf19] at hn hl
  match n,hn with
  | n+1,hn =>
   have hr:=dG wa
   have hsa:szX a<=50000:=by
    by_cases k:t.1=7
    ·rw[if_pos k] at hs'
     have h7:=xA (show 0<=ar t by omega) k
     have hge:szX a+3<=(szX a+3)*t.2.2.2:=by
      have:=Int.mul_le_mul_of_nonneg_left (c:=szX a+3) h7.2.1 (by omega)
      omega
     omega
    ·rw[if_neg k] at hs';omega
   have hla:=A5 wa (by omega)
   rw[b9]
   obtain ⟨l1,l2⟩:=kD (A:=flat a) (t:=t) (by omega)
   rw[l1];simp only[aliasOf0]
   rw[NJ (.inl e)];simp only[aliasOf0,Bool.false_eq_true,if_false]
   rw[l2,Int.toNat_natCast,List.take_left,kl (by simp only[aliasOf5,aliasOf6,aliasOf19];omega)];simp only[aliasOf0]
   rw[ih n (by omega) (by omega) hsa,TE];simp only[aliasOf0]
   rcases NK e with ⟨k1,k2⟩ | ⟨k1,k2,k3⟩
   ·rw[if_pos k1,if_neg (by omega),FX (by simp;omega),A1];simp
   ·have h7:=xA (show 0<=ar t by omega) k3
    rw[if_neg (by simp[k1]),if_pos k2,if_pos k3]
    have:=KO (x:=oC a) t.2.2.2.toNat e7 t.2.2.1 (by omega) (by omega) (by omega) (by omega) (by omega)
    rw[Int.toNat_of_nonneg (by omega)] at this
    rw[this];rfl
 ·intro t a b e wa wb iha ihb n hn hl hs
  have k:=no7 (.inl e)
  have hs':min ((1:Int)+(if t.1=7 then (szX a+3)*t.2.2.2 else szX a)+(if t.1=7 then (szX b+3)*t.2.2.2 else szX b)) 100000<=50000:=hs
  rw[if_neg k,if_neg k] at hs'
  rw[ri] at hn hl⊢
  obtain ⟨p1,p2,p3,p4⟩:=xC (a:=a) (t:=t) wb hl
  simp only[aliasOf5,aliasOf6,aliasOf19] at hn hl
  match n,hn with
  | n+1,hn =>
   have hra:=dG wa
   have hrb:=dG wb
   have hla:=A5 wa (by omega)
   have hlb:=A5 wb (by omega)
   rw[b9]
   obtain ⟨l1,l2⟩:=kD (A:=flat a++flat b) (t:=t) (by rw[aliasOf5];omega)
   rw[l1];simp only[aliasOf0]
   rw[U1 e];simp only[aliasOf0,if_true]
   rw[l2,p1,p2,kl (by simp only[aliasOf5,aliasOf6,aliasOf19];omega)];simp only[aliasOf0]
   rw[kl (by simp only[aliasOf5,aliasOf6,aliasOf19];omega),p3,p4];simp only[aliasOf0]
   rw[iha n (by omega) (by omega) (by omega),kl (by simp only[aliasOf5,aliasOf6,aliasOf19];omega)];simp only[aliasOf0]
   rw[ihb n (by have:=wa.pos;omega) (by omega) (by omega)];simp only[aliasOf0]
   rw[FX (by omega),exp2 k,ri];rfl
def Hv (e:List Tok):List Tok×Bool:=
 if decide (e.length<=24)&&isX e then (if 5000<szX (vd e) then ([],false) else (if 400<(flat (oC (vd e))).length then ([],false) else (flat (oC (vd e)),true))) else ([],false)
theorem Ev {e:List Tok} (he:e.length<=1048576):jz e=some (Hv e)/\jH e=some (Hv e):=by
 have hF:=sA
 unfold jz jH Hv
 rw[Er he,Es he];simp only[aliasOf0]
 by_cases c:(decide (e.length<=24)&&isX e)=true
 ·rw[if_pos c,if_pos c,if_pos c,A3 he];simp only[aliasOf0]
  rw[ae] at c
  obtain ⟨x,h1,hw,rfl⟩:=KJ c.2
  have h24:(flat x).length<=24:=by simpa using c.1
  have hr:=dG hw
  rw[tJ hw,SO hw e7 (by omega) (by omega),Rd hw e7 (by omega)];simp only[aliasOf0]
  by_cases c2:5000<szX x
  ·have c2':decide (szX x>5000)=true:=by simpa using c2
   simp only[gt_iff_lt,c2,decide_true,if_true,and_self]
  ·have c2':decide (szX x>5000)=false:=by simpa using c2
   simp only[gt_iff_lt,c2,decide_false,if_false,Bool.false_eq_true]
   have hl:=A5 hw (by omega)
   rw[NN hw e7 (by omega) (by omega) (by omega),NM hw e7 (by omega)];simp only[aliasOf0]
   unfold nC
   rw[KP (O4 hw) e7 [] (by omega) (by simp;omega)];simp only[aliasOf0,List.nil_append]
   by_cases c3:400<(flat (oC x)).length
   ·have c3':decide (((flat (oC x)).length:Int)>400)=true:=decide_eq_true (by omega)
    simp only[c3',c3,decide_true,if_true,and_self]
   ·have c3':decide (((flat (oC x)).length:Int)>400)=false:=decide_eq_false (by omega)
    simp only[c3',c3,decide_false,if_false,Bool.false_eq_true,and_self]
 ·rw[if_neg c,if_neg c,if_neg c];exact ⟨rfl,rfl⟩
theorem Re {e:List Tok} (h:(Hv e).2=true): ∃y,WT y/\(Hv e).1=flat y/\(flat y).length<=400:=by
 unfold Hv at h⊢
 split at h
 ·rename_i c
  rw[if_pos c]
  rw[ae] at c
  obtain ⟨x,h1,hw,rfl⟩:=KJ c.2
  rw[tJ hw] at h⊢
  split at h
  ·cases h
  ·rename_i c2
   rw[if_neg c2]
   split at h
   ·cases h
   ·rename_i c3
    rw[if_neg c3]
    exact ⟨_,O4 hw,rfl,by omega⟩
 ·cases h
end D
namespace D
open Go.RowKit
def KQ (out:List Bool) (t:Int):Bool:=decide (t≥0)&&nth out t
def hit (out:List Bool) (row:List Int):Bool:=row.any (KQ out)
def uG (a:AutT) (out:List Bool) (s:Nat):List Bool:=if hit out (nth a.2.2 s) then out.set s true else out
def hO (a:AutT) (out:List Bool):Nat->List Bool
 | 0=>out
 | s+1=>uG a (hO a out s) s
def cnt (out:List Bool):Nat:=out.count true
theorem SP (out:List Bool):cnt out<=out.length:=List.count_le_length
theorem FY {out:List Bool} {s:Nat} (h:s<out.length) (k:out[s] =true):out.set s true=out:=by
 refine List.ext_getElem (by simp) fun i h1 h2=>?_
 rw[List.getElem_set]
 split
 ·rename_i e;subst e;exact k.symm
 ·rfl
theorem Rf {out:List Bool} {s:Nat} (h:s<out.length) (k:out[s] =false):cnt (out.set s true)=cnt out+1:=by
 unfold cnt
 rw[List.count_set h];simp[k]
section
variable {a:AutT} {n:Nat}
theorem A6 (a:AutT) (out:List Bool) (s:Nat):(uG a out s).length=out.length:=by unfold uG;split <;> simp
theorem iW (a:AutT) (out:List Bool): ∀s,(hO a out s).length=out.length
 | 0=>rfl
 | s+1=>by rw[hO,A6,iW a out s]
theorem uH {out:List Bool} {s:Nat} (h:s<out.length):(uG a out s=out/\ ¬(hit out (nth a.2.2 s)=true/\nth out s=false))\/(cnt (uG a out s)=cnt out+1/\hit out (nth a.2.2 s)=true/\nth out s=false):=by
 unfold uG
 rw[bM h]
 cases hh:hit out (nth a.2.2 s) with
 | false=>exact .inl ⟨by simp,by simp⟩
 | true =>
  cases hk:out[s] with
  | true=>exact .inl ⟨by simp[FY h hk],by simp⟩
  | false=>exact .inr ⟨by simp[Rf h hk],rfl,rfl⟩
theorem tL {out:List Bool} : ∀s,s<=out.length->(hO a out s=out/\cnt (hO a out s)=cnt out)\/cnt out<cnt (hO a out s)
 | 0,_=>.inl ⟨rfl,rfl⟩
 | s+1,hs=>by
  have hl:s<(hO a out s).length:=by rw[iW];omega
  have ih:=tL (out:=out) s (by omega)
  rw[hO]
  rcases uH (a:=a) hl with ⟨e,-⟩ | ⟨e,-,-⟩
  ·rw[e];exact ih
  ·rcases ih with ⟨-,h2⟩ | h
   ·exact .inr (by omega)
   ·exact .inr (by omega)
def it (a:AutT):Nat->List Bool
 | 0=>a.2.1
 | j+1=>hO a (it a j) a.2.1.length
theorem mX (a:AutT): ∀j,(it a j).length=a.2.1.length
 | 0=>rfl
 | j+1=>by rw[it,iW,mX a j]
theorem O5 (a:AutT) (j:Nat):cnt (it a j)<=a.2.1.length:=by rw[<-mX a j];exact SP _
theorem Ew (a:AutT) (j:Nat):(it a (j+1)=it a j)\/cnt (it a j)<cnt (it a (j+1)):=by
 rcases tL (a:=a) (out:=it a j) a.2.1.length (by rw[mX];exact al _) with h | h
 ·exact .inl h.1
 ·exact .inr h
theorem O6 {j k:Nat} (h:it a (j+1)=it a j) (hk:j<=k):it a k=it a j:=by
 induction hk with
 | refl=>rfl
 | step _ ih=>rw[it,ih];exact h
theorem KR {j k:Nat} (h:it a (j+1)=it a j) (h':it a (k+1)=it a k):it a j=it a k:=by
 rcases Nat.le_total j k with e | e
 ·exact (O6 h e).symm
 ·exact O6 h' e
theorem Rg (a : AutT) : it a (a.2.1.length + 1) = it a a.2.1.length := by
  have key : ∀ j, it a (j + 1) = it a j \/ j + 1 <= cnt (it a (j + 1)) := by
    intro j
    induction j with
    | zero => rcases Ew a 0 with h | h
              · exact .inl h
              · exact .inr (by omega)
    | succ j ih =>
      rcases Ew a (j + 1) with h | h
      · exact .inl h
      · rcases ih with h' | h'
        · left; rw [it, h']; exact h'
        · exact .inr (by omega)
  rcases key a.2.1.length with h | h
  · exact h
  · have := O5 a (a.2.1.length + 1); omega
def live (a:AutT):List Bool:=it a a.2.1.length
theorem rj (a:AutT):(live a).length=a.2.1.length:=mX a _
theorem FZ {α:Type} [Inhabited α] {row:List α} {p:α->Bool} {k:Nat} (h:k<row.length):(row.take (k+1)).any p=((row.take k).any p || p (nth row (k:Int))):=by
 rw[List.take_succ_eq_append_getElem h,List.any_append,bM h];simp
section
variable (V:VA a n) (hn:n<=1000000)
include V hn
theorem KS {out:List Bool} {s:Nat} (hs:s<n) (hl:out.length=n):aq (gp a (out,(s:Int))) aS (out,0)=some (.brk (uG a out s,9)):=by
 have hr:=V.rowAt (s:=s) (by omega) (by omega)
 have hls:s<out.length:=by omega
 have:=br (f:=gp a (out,(s:Int))) (fun k=>(if ((nth a.2.2 (s:Int)).take k).any (KQ out) then out.set s true else out,(k:Int))) 9 (fun k hk=>by
  unfold gp
  simp only
  rw[if_pos (by simp;omega),V.get (by omega) (by omega)];simp only[aliasOf0]
  rw[V.get2 (by omega) (by omega) hk];simp only[aliasOf0]
  rw[FZ (by omega),show nth (nth a.2.2 (s:Int)) (k:Int)=mv a s k from rfl]
  simp only[af (show k<9223372036854775807 by omega)]
  by_cases c:mv a s k≥0
  ·have hset:(out.set s true).length=n:=by simp[hl]
   have hm:=(V.mv (s:=s) (k:=k) (by omega) (by omega) hk).2
   rw[if_pos (by simpa using c)]
   by_cases q:((nth a.2.2 (s:Int)).take k).any (KQ out)=true
   ·simp only[q,if_true,Bool.true_or]
    rw[aA c (by rw[hset];exact hm),aA (by omega) (by rw[hset];omega)];simp only[aliasOf0,Int.toNat_natCast]
    split <;> simp
   ·simp only[q,Bool.false_eq_true,if_false,Bool.false_or,KQ]
    rw[aA c (by rw[hl];exact hm),aA (by omega) (by rw[hl];omega)];simp only[aliasOf0,Int.toNat_natCast]
    cases hc:nth out (mv a s k) <;> simp[hc,c]
  ·rw[if_neg (by simpa using c)]
   simp[KQ,c]) (by unfold gp;simp) (by unfold aS;omega)
 have e9:(nth a.2.2 (s:Int)).take 9=nth a.2.2 (s:Int):=List.take_of_length_le (by omega)
 rw[e9] at this
 exact this
theorem CX {out:List Bool} (hl:out.length=n):aq (gq a) aS (out,0)=some (.brk (hO a out n,(n:Int))):=by
 have hlen:=V.len
 refine br (f:=gq a) (fun s=>(hO a out s,(s:Int))) n (fun s hs=>?_) ?_ (rm (by omega))
 ·unfold gq
  simp only
  rw[if_pos (by simp;omega),au (KS V hn hs (by rw[iW];exact hl)),af (by omega)]
  rfl
 ·unfold gq
  simp only
  rw[if_neg (by simp;omega)]
theorem O7:ji a=some (live a):=by
 have hlen:=V.len
 unfold ji
 rw[aD (by simp;omega)];simp only[aliasOf0,List.nil_append]
 have:=br (f:=jB a) (fun j=>(it a j,(j:Int))) n (fun j hj=>by
  unfold jB
  simp only
  rw[if_pos (by simp;omega),au (CX V hn (by rw[mX];exact hlen)),af (by omega),it,hlen]) (by
  unfold jB
  simp only
  rw[if_neg (by simp;omega)]) (rm (by omega))
 exact (au this).trans (by simp[live,hlen])
theorem KT {out:List Bool} {g:Bool} {s:Nat} (hs:s<n) (hl:out.length=n):aq (cF (g,(s:Int),out) (nth a.2.2 (s:Int))) aS (g,0,out)=some (.brk (g || (hit out (nth a.2.2 (s:Int)) && !nth out (s:Int)),9,uG a out s)):=by
 have hr:=V.rowAt (s:=s) (by omega) (by omega)
 have hls:s<out.length:=by omega
 have:=br (f:=cF (g,(s:Int),out) (nth a.2.2 (s:Int))) (fun k=>(g || (((nth a.2.2 (s:Int)).take k).any (KQ out) && !nth out (s:Int)),(k:Int),if ((nth a.2.2 (s:Int)).take k).any (KQ out) then out.set s true else out)) 9 (fun k hk=>by
  unfold cF
  simp only
  rw[if_pos (by simp[hr];omega),V.get2 (by omega) (by omega) hk];simp only[aliasOf0]
  rw[FZ (by omega),show nth (nth a.2.2 (s:Int)) (k:Int)=mv a s k from rfl]
  simp only[af (show k<9223372036854775807 by omega)]
  by_cases c:mv a s k≥0
  ·have hset:(out.set s true).length=n:=by simp[hl]
   have hm:=(V.mv (s:=s) (k:=k) (by omega) (by omega) hk).2
   rw[if_pos (by simpa using c)]
   by_cases q:((nth a.2.2 (s:Int)).take k).any (KQ out)=true
   ·simp only[q,if_true,Bool.true_or]
    have hself:nth (out.set s true) (s:Int)=true:=by
     have:=CQ (xs:=out) (i:=(s:Int)) (x:=true) (by omega) (by omega)
     simpa using this
    rw[aA c (by rw[hset];exact hm),aA (by omega) (by rw[hset];omega)];simp only[aliasOf0,Int.toNat_natCast,hself,if_true]
    split <;> simp
   ·simp only[q,Bool.false_eq_true,if_false,Bool.false_or,KQ,Bool.false_and,Bool.or_false]
    rw[aA c (by rw[hl];exact hm),aA (by omega) (by rw[hl];omega)];simp only[aliasOf0,Int.toNat_natCast]
    cases hc:nth out (mv a s k) with
    | false=>simp[c]
    | true =>
     cases hd:nth out (s:Int) with
     | false=>simp[c]
     | true =>
      rw[bM hls] at hd
      simp[c,FY hls hd]
  ·rw[if_neg (by simpa using c)]
   simp[KQ,c]) (by unfold cF;simp[hr]) (by unfold aS;omega)
 have e9:(nth a.2.2 (s:Int)).take 9=nth a.2.2 (s:Int):=List.take_of_length_le (by omega)
 rw[e9] at this
 have e0:(g || (((nth a.2.2 (s:Int)).take 0).any (KQ out) && !nth out (s:Int)))=g:=by simp
 rw[e0] at this
 exact this
theorem CY {out:List Bool} (hl:out.length=n): ∃g,aq (cG a) aS (false,0,out)=some (.brk (g,(n:Int),hO a out n))/\(g=true↔cnt out<cnt (hO a out n)):=by
 have hlen:=V.len
 have hnl:=V.nlen
 obtain ⟨s',e,⟨g,rfl,hg⟩⟩:=ln (f:=cG a) (fun s st=> ∃g,st=(g,(s:Int),hO a out s)/\(g=true↔cnt out<cnt (hO a out s))) n (by
  rintro s st hs ⟨g,rfl,hg⟩
  have hpl:(hO a out s).length=n:=by rw[iW];exact hl
  unfold cG
  simp only
  rw[if_pos (by simp;omega),V.get (by omega) (by omega)];simp only[aliasOf0]
  rw[au (KT V hn hs hpl),af (by omega)]
  refine ⟨_,rfl,_,rfl,?_⟩
  rw[Bool.or_eq_true,ae,Bool.not_eq_true',hg,hO]
  have hc:=tL (a:=a) (out:=out) s (by omega)
  rcases uH (a:=a) (out:=hO a out s) (s:=s) (by omega) with ⟨e,k⟩ | ⟨e,k⟩
  ·rw[e];exact ⟨fun h=>h.elim id fun h=>absurd h k,.inl⟩
  ·rw[e]
   exact ⟨fun _=>by rcases hc with ⟨-,h⟩ | h <;> omega,fun _=>.inr k⟩) (by
  rintro s ⟨g,rfl,hg⟩
  unfold cG
  simp only
  rw[if_neg (by simp;omega)]) ⟨false,rfl,by simp[hO]⟩ (rm (by omega))
 exact ⟨g,e,hg⟩
theorem SQ:dz a=some (live a):=by
 have hlen:=V.len
 unfold dz
 rw[aD (by simp;omega)];simp only[aliasOf0,List.nil_append]
 obtain ⟨o,e,i,rfl,hi⟩:=cy (f:=fK a) (fun i s=> ∃b,s=(b,it a i)/\(b=true->i<=cnt (it a i))/\(b=false->it a (i+1)=it a i)) (fun o=> ∃i,o= .brk (false,it a i)/\it a (i+1)=it a i) (n+1) (s:=(true,a.2.1)) (by
  rintro i s hi ⟨b,rfl,h1,h2⟩
  unfold fK
  simp only
  cases b with
  | false=>exact .inr ⟨_,by rw[if_neg (by simp)],(fun s' e=>by cases e),i,rfl,h2 rfl⟩
  | true =>
   have hc:=O5 a i
   have h1:=h1 rfl
   obtain ⟨g,e,hg⟩:=CY V hn (out:=it a i) (by rw[mX];exact hlen)
   have ee:hO a (it a i) n=it a (i+1):=by rw[it,hlen]
   rw[ee] at e hg
   refine .inl ⟨by omega,(g,it a (i+1)),by rw[if_pos rfl,au e],g,rfl,fun h=>?_,fun h=>?_⟩
   ·have:=hg.1 h;omega
   ·have hs:it a (i+1)=it a i:=by
     rcases Ew a i with h' | h'
     ·exact h'
     ·rw[<-hg,h] at h';cases h'
    rw[it,hs];exact hs) ⟨true,rfl,fun _=>Nat.zero_le _,fun h=>by cases h⟩ (rm (by omega))
 rw[au e]
 have:=KR hi (Rg a)
 simp[live,this]
end
end
end D
end Go.Proofs.YtilionjghdjbdaaGreatDoor
