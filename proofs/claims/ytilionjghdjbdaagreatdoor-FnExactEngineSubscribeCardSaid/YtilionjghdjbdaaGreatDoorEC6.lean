/- FnExactEngineSubscribe: for every input the law returns true and changes nothing that was there. Part 7 of 9. -/
import Derived.Test.YtilionjghdjbdaaGreatDoorEC5
set_option linter.unusedVariables false
set_option linter.unusedSimpArgs false
set_option linter.unnecessarySimpa false
set_option linter.unusedSectionVars false
set_option maxRecDepth 1000000
namespace Go.Proofs.YtilionjghdjbdaaGreatDoor
namespace R
open Go.RowKit
open D
abbrev y3:Ty:=.int .i64
abbrev xF:Ty:=.prod y3 (.prod y3 (.prod y3 y3))
abbrev t274:Ty:=.tree 302 274 xF
abbrev GW:Ty:=.prod y3 (.prod y3 (.prod y3 y3))
abbrev VC:Ty:=.sl 168 GW
abbrev y91:Ty:=.sl 3 y3
abbrev GX:Ty:=.prod y91 VC
abbrev YM:Ty:=.prod y3 (.prod y3 y3)
abbrev y59:Ty:=.sl 161 xF
abbrev y61:Ty:=.wr y59
abbrev Bv:Ty:=.prod y3 (.prod y61 y3)
abbrev YN:Ty:=.prod y3 (.prod y3 (.prod y3 y3))
abbrev y4:Ty:=.bool
abbrev Zu:Ty:=.prod y4 GW
abbrev Yb:Ty:=.prod y3 (.prod y3 (.prod y3 y3))
abbrev Zv:Ty:=.prod y4 Yb
abbrev Yc:Ty:=.sl 172 Yb
abbrev Yd:Ty:=.prod y91 Yc
abbrev Ge:Ty:=.sl 4 y4
abbrev K4:Ty:=.sl 91 y91
abbrev Ye:Ty:=.prod y3 (.prod Ge K4)
abbrev y54:Ty:=.sl 163 YN
abbrev y56:Ty:=.wr y54
abbrev Yf:Ty:=.prod y3 (.prod y56 y3)
abbrev l9:Ty:=.prod y3 (.prod Ge K4)
abbrev y9:Ty:=.str
abbrev YO:Ty:=.sl 9 y9
abbrev y22:Ty:=.sl 179 Yd
abbrev y5:Ty:=.int .u8
abbrev ZM:Ty:=.sl 5 y5
abbrev JQ:Ty:=.prod y91 (.prod y3 (.prod y3 (.prod y91 y4)))
abbrev y24:Ty:=.prod y3 y22
abbrev y25:Ty:=.sl 184 Ye
abbrev y26:Ty:=.sl 187 Yf
abbrev Zw:Ty:=.prod y4 (.prod y3 y3)
abbrev Zx:Ty:=.prod y3 (.prod y3 y4)
abbrev YP:Ty:=.fro t274
abbrev y28:Ty:=.prod y25 y26
abbrev y29:Ty:=.sl 133 YM
abbrev Xi:Ty:=.int .u64
abbrev Yg:Ty:=.sl 274 YP
abbrev ZN:Ty:=.prod xF Yg
abbrev y31:Ty:=.prod y24 (.prod y28 (.prod y29 y9))
abbrev Xj:Ty:=.int .u64
abbrev y34:Ty:=.sl 126 GX
abbrev Xk:Ty:=.int .u32
abbrev y36:Ty:=.prod y3 y34
abbrev y37:Ty:=.sl 189 l9
abbrev y38:Ty:=.sl 137 Bv
abbrev y40:Ty:=.prod y37 y38
abbrev y88:Ty:=.prod y3 (.prod y3 y3)
abbrev y41:Ty:=.sl 88 y88
abbrev y43:Ty:=.prod y36 (.prod y40 (.prod y41 y9))
abbrev y66:Ty:=.sl 174 Zv
abbrev y68:Ty:=.wr y66
abbrev y71:Ty:=.sl 170 Zu
abbrev y73:Ty:=.wr y71
abbrev y92:Ty:=.sl 73 y73
theorem ti3:TI Tryz.prog 3 false 1:=⟨⟨_,Tryz.underlying3,rfl⟩,by kernel_rfl⟩
theorem Xl (a0:Int) (a1:Int) (a2:Int) (a3:Int) (b0:Int) (b1:Int) (b2:Int) (b3:Int) (w:World):EqT Tryz.prog 161 (.agg #[.int .i64 a0,.int .i64 a1,.int .i64 a2,.int .i64 a3]) (.agg #[.int .i64 b0,.int .i64 b1,.int .i64 b2,.int .i64 b3]) ((a0==b0)&&((a1==b1)&&((a2==b2)&&((a3==b3)&&true)))) w:=Sw w Tryz.underlying161 (by kernel_rfl) (by kernel_rfl) (n7 rfl (mz ti3 rfl) (mz ti3 rfl) (run_equalIn_int w 9998 3 _ _ _ _ Tryz.underlying3) (n7 rfl (mz ti3 rfl) (mz ti3 rfl) (run_equalIn_int w 9998 3 _ _ _ _ Tryz.underlying3) (n7 rfl (mz ti3 rfl) (mz ti3 rfl) (run_equalIn_int w 9998 3 _ _ _ _ Tryz.underlying3) (n7 rfl (mz ti3 rfl) (mz ti3 rfl) (run_equalIn_int w 9998 3 _ _ _ _ Tryz.underlying3) (L9 w)))))
theorem Xm (a0:Int) (a1:Int) (a2:Int) (a3:Int) (b0:Int) (b1:Int) (b2:Int) (b3:Int) (w:World):EqT Tryz.prog 168 (.agg #[.int .i64 a0,.int .i64 a1,.int .i64 a2,.int .i64 a3]) (.agg #[.int .i64 b0,.int .i64 b1,.int .i64 b2,.int .i64 b3]) ((a0==b0)&&((a1==b1)&&((a2==b2)&&((a3==b3)&&true)))) w:=Sw w Tryz.underlying168 (by kernel_rfl) (by kernel_rfl) (n7 rfl (mz ti3 rfl) (mz ti3 rfl) (run_equalIn_int w 9998 3 _ _ _ _ Tryz.underlying3) (n7 rfl (mz ti3 rfl) (mz ti3 rfl) (run_equalIn_int w 9998 3 _ _ _ _ Tryz.underlying3) (n7 rfl (mz ti3 rfl) (mz ti3 rfl) (run_equalIn_int w 9998 3 _ _ _ _ Tryz.underlying3) (n7 rfl (mz ti3 rfl) (mz ti3 rfl) (run_equalIn_int w 9998 3 _ _ _ _ Tryz.underlying3) (L9 w)))))
theorem mz3 (w:World):(zeroValue 3).run Tryz.prog w= .ok (.int .i64 0) w:=by kernel_rfl
theorem kk3:KeyOk Tryz.prog 3 (fun n:Int=>Value.int .i64 n) Ui iOk:=Wx Tryz.underlying3
theorem ek3:EltOk Tryz.prog 3 (fun n:Int=>Value.int .i64 n) Ui iOk 0:=Wy Tryz.underlying3 mz3
def tt:TT:=[(3,⟨false,1,none,y3,[],some 8,none,false,none,none,some (some .i64),false,none⟩),
 (4,⟨false,1,none,y4,[],some 1,none,true,none,none,none,false,none⟩),
 (5,⟨false,1,none,y5,[],some 1,none,false,none,none,some (some .u8),false,none⟩),
 (9,⟨false,1,none,y9,[],some 16,none,false,none,none,some none,false,none⟩),
 (22,⟨false,1,some 179,y22,[],some 24,none,false,none,none,none,false,none⟩),
 (24,⟨true,2,none,y24,[(0,0),(1,0)],some 32,some [(0,1),(1,1)],false,none,none,none,false,none⟩),
 (25,⟨false,1,some 184,y25,[],some 24,none,false,none,none,none,false,none⟩),
 (26,⟨false,1,some 187,y26,[],some 24,none,false,none,none,none,false,none⟩),
 (28,⟨true,2,none,y28,[(0,0),(1,0)],some 48,some [(0,1),(1,1)],false,none,none,none,false,none⟩),
 (29,⟨false,1,some 133,y29,[],some 24,none,false,none,none,none,false,none⟩),
 (31,⟨true,6,none,y31,[(0,1),(2,1),(4,0),(5,0)],some 120,some [(0,2),(2,2),(4,1),(5,1)],false,none,none,none,false,none⟩),
 (34,⟨false,1,some 126,y34,[],some 24,none,false,none,none,none,false,none⟩),
 (36,⟨true,2,none,y36,[(0,0),(1,0)],some 32,some [(0,1),(1,1)],false,none,none,none,false,none⟩),
 (37,⟨false,1,some 189,y37,[],some 24,none,false,none,none,none,false,none⟩),
 (38,⟨false,1,some 137,y38,[],some 24,none,false,none,none,none,false,none⟩),
 (40,⟨true,2,none,y40,[(0,0),(1,0)],some 48,some [(0,1),(1,1)],false,none,none,none,false,none⟩),
 (41,⟨false,1,some 88,y41,[],some 24,none,false,none,none,none,false,none⟩),
 (43,⟨true,6,none,y43,[(0,1),(2,1),(4,0),(5,0)],some 120,some [(0,2),(2,2),(4,1),(5,1)],false,none,none,none,false,none⟩),
 (54,⟨false,1,some 163,y54,[],some 24,none,false,none,none,none,false,none⟩),
 (56,⟨true,1,none,y56,[(0,0)],some 24,some [(0,1)],false,none,none,none,false,none⟩),
 (59,⟨false,1,some 161,y59,[],some 24,none,false,none,none,none,false,none⟩),
 (61,⟨true,1,none,y61,[(0,0)],some 24,some [(0,1)],false,none,none,none,false,none⟩),
 (66,⟨false,1,some 174,y66,[],some 24,none,false,none,none,none,false,none⟩),
 (68,⟨true,1,none,y68,[(0,0)],some 24,some [(0,1)],false,none,none,none,false,none⟩),
 (71,⟨false,1,some 170,y71,[],some 24,none,false,none,none,none,false,none⟩),
 (73,⟨true,1,none,y73,[(0,0)],some 24,some [(0,1)],false,none,none,none,false,none⟩),
 (88,⟨true,3,none,y88,[(0,0),(1,0),(2,0)],some 24,some [(0,1),(1,1),(2,1)],false,none,none,none,false,none⟩),
 (91,⟨false,1,some 3,y91,[],some 24,none,false,none,none,none,false,none⟩),
 (92,⟨false,1,some 73,y92,[],some 24,none,false,none,none,none,false,none⟩),
 (108,⟨false,1,none,.bool,[],none,none,false,none,none,none,true,none⟩),
 (124,⟨false,1,some 168,VC,[],some 24,none,false,none,none,none,false,none⟩),
 (126,⟨true,2,none,GX,[(0,0),(1,0)],some 48,some [(0,1),(1,1)],false,none,none,none,false,none⟩),
 (133,⟨true,3,none,YM,[(0,0),(1,0),(2,0)],some 24,some [(0,1),(1,1),(2,1)],false,none,none,none,false,none⟩),
 (134,⟨false,1,none,.bool,[],none,none,false,none,none,none,true,none⟩),
 (137,⟨true,3,none,Bv,[(0,0),(1,0),(2,0)],some 40,some [(0,1),(1,1),(2,1)],false,none,none,none,false,none⟩),
 (138,⟨false,1,none,.bool,[],none,none,false,none,none,none,true,none⟩),
 (161,⟨true,4,none,xF,[(0,0),(1,0),(2,0),(3,0)],some 32,some [(0,1),(1,1),(2,1),(3,1)],false,some [some .i64,some .i64,some .i64,some .i64],none,none,false,none⟩),
 (163,⟨true,4,none,YN,[(0,0),(1,0),(2,0),(3,0)],some 32,some [(0,1),(1,1),(2,1),(3,1)],false,none,none,none,false,none⟩),
 (168,⟨true,4,none,GW,[(0,0),(1,0),(2,0),(3,0)],some 32,some [(0,1),(1,1),(2,1),(3,1)],false,some [some .i64,some .i64,some .i64,some .i64],none,none,false,none⟩),
 (170,⟨true,5,none,Zu,[(0,0),(1,3)],some 40,some [(0,1),(1,4)],false,none,none,none,false,none⟩),
 (172,⟨true,4,none,Yb,[(0,0),(1,0),(2,0),(3,0)],some 32,some [(0,1),(1,1),(2,1),(3,1)],false,none,none,none,false,none⟩),
 (174,⟨true,5,none,Zv,[(0,0),(1,3)],some 40,some [(0,1),(1,4)],false,none,none,none,false,none⟩),
 (177,⟨false,1,some 172,Yc,[],some 24,none,false,none,none,none,false,none⟩),
 (179,⟨true,2,none,Yd,[(0,0),(1,0)],some 48,some [(0,1),(1,1)],false,none,none,none,false,none⟩),
 (181,⟨false,1,some 4,Ge,[],some 24,none,false,none,none,none,false,none⟩),
 (182,⟨false,1,some 91,K4,[],some 24,none,false,none,none,none,false,none⟩),
 (184,⟨true,3,none,Ye,[(0,0),(1,0),(2,0)],some 56,some [(0,1),(1,1),(2,1)],false,none,none,none,false,none⟩),
 (187,⟨true,3,none,Yf,[(0,0),(1,0),(2,0)],some 40,some [(0,1),(1,1),(2,1)],false,none,none,none,false,none⟩),
 (189,⟨true,3,none,l9,[(0,0),(1,0),(2,0)],some 56,some [(0,1),(1,1),(2,1)],false,none,none,none,false,none⟩),
 (194,⟨false,1,none,.bool,[],none,none,false,none,none,none,true,none⟩),
 (200,⟨false,1,none,.bool,[],none,none,false,none,none,none,true,none⟩),
 (204,⟨false,1,none,.bool,[],none,none,false,none,none,none,true,none⟩),
 (205,⟨false,1,some 9,YO,[],some 24,none,false,none,none,none,false,none⟩),
 (222,⟨false,1,some 5,ZM,[],some 24,none,false,none,none,none,false,none⟩),
 (230,⟨true,5,none,JQ,[(0,0),(1,0),(2,0),(3,0),(4,0)],some 72,some [(0,1),(1,1),(2,1),(3,1),(4,1)],false,none,none,none,false,none⟩),
 (263,⟨true,3,none,Zw,[(0,0),(1,0),(2,0)],some 24,some [(0,1),(1,1),(2,1)],false,none,none,none,false,none⟩),
 (272,⟨true,3,none,Zx,[(0,0),(1,0),(2,0)],some 24,some [(0,1),(1,1),(2,1)],false,none,none,none,false,none⟩),
 (274,⟨false,1,none,YP,[],some 8,none,false,none,none,none,false,some 302⟩),
 (277,⟨false,1,none,.bool,[],none,none,false,none,none,none,true,none⟩),
 (279,⟨false,1,none,.bool,[],none,none,false,none,none,none,true,none⟩),
 (290,⟨false,1,none,.bool,[],none,none,false,none,none,none,true,none⟩),
 (295,⟨false,1,none,Xi,[],some 8,none,false,none,none,some (some .u64),false,none⟩),
 (300,⟨false,1,some 274,Yg,[],some 24,none,false,none,none,none,false,none⟩),
 (302,⟨true,5,none,ZN,[(0,3),(4,0)],some 56,some [(0,4),(4,1)],false,none,none,none,false,none⟩),
 (306,⟨false,1,none,.bool,[],none,none,false,none,some ⟨3,3,.int,.int⟩,none,false,none⟩),
 (308,⟨false,1,none,.bool,[],none,none,false,none,none,none,true,none⟩),
 (321,⟨false,1,none,Xj,[],some 8,none,false,none,none,some (some .u64),false,none⟩),
 (344,⟨false,1,none,Xk,[],some 4,none,false,none,none,some (some .u32),false,none⟩),
 (351,⟨false,1,none,.bool,[],none,none,false,none,none,none,true,none⟩)]
theorem Oc:TTok Tryz.prog tt:=⟨ug (n:=1) (z:=.int .i64 0) ⟨⟨_,Tryz.underlying3,rfl⟩,by kernel_rfl⟩ rfl (by unfold TZ;kernel_rfl) rfl (bp rfl) (fun h=>by cases h) (fun k h=>by obtain rfl:=ae h;exact Tryz.underlying3),
 ug (n:=1) (z:=.bool false) ⟨⟨_,Tryz.underlying4,rfl⟩,by kernel_rfl⟩ rfl (by unfold TZ;kernel_rfl) rfl (bp rfl) (fun h=>Tryz.underlying4) (fun k h=>by cases h),
 ug (n:=1) (z:=.int .u8 0) ⟨⟨_,Tryz.underlying5,rfl⟩,by kernel_rfl⟩ rfl (by unfold TZ;kernel_rfl) rfl (bp rfl) (fun h=>by cases h) (fun k h=>by obtain rfl:=ae h;exact Tryz.underlying5),
 ug (n:=1) (z:=.string ⟨#[]⟩) ⟨⟨_,Tryz.underlying9,rfl⟩,by kernel_rfl⟩ rfl (by unfold TZ;kernel_rfl) rfl (bp rfl) (fun h=>by cases h) (fun k h=>by obtain rfl:=ae h;exact Tryz.underlying9),
 oL ⟨⟨_,Tryz.underlying22,rfl⟩,by kernel_rfl⟩ Tryz.underlying22 (by unfold TZ;kernel_rfl),
 kO (z:=.agg #[.int .i64 0,.slice none 0 0]) ⟨⟨_,Tryz.underlying24,rfl⟩,by kernel_rfl⟩ rfl ⟨⟨_,_,Tryz.underlying24,rfl,rfl,by kernel_rfl⟩,⟨_,_,Tryz.underlying24,rfl,rfl,by kernel_rfl⟩,trivial⟩ (by unfold TZ;kernel_rfl) rfl (bp rfl) ⟨_,Tryz.underlying24,by kernel_rfl⟩ (fun ks h=>by cases h),
 oL ⟨⟨_,Tryz.underlying25,rfl⟩,by kernel_rfl⟩ Tryz.underlying25 (by unfold TZ;kernel_rfl),
 oL ⟨⟨_,Tryz.underlying26,rfl⟩,by kernel_rfl⟩ Tryz.underlying26 (by unfold TZ;kernel_rfl),
 kO (z:=.agg #[.slice none 0 0,.slice none 0 0]) ⟨⟨_,Tryz.underlying28,rfl⟩,by kernel_rfl⟩ rfl ⟨⟨_,_,Tryz.underlying28,rfl,rfl,by kernel_rfl⟩,⟨_,_,Tryz.underlying28,rfl,rfl,by kernel_rfl⟩,trivial⟩ (by unfold TZ;kernel_rfl) rfl (bp rfl) ⟨_,Tryz.underlying28,by kernel_rfl⟩ (fun ks h=>by cases h),
 oL ⟨⟨_,Tryz.underlying29,rfl⟩,by kernel_rfl⟩ Tryz.underlying29 (by unfold TZ;kernel_rfl),
 kO (z:=.agg #[.int .i64 0,.slice none 0 0,.slice none 0 0,.slice none 0 0,.slice none 0 0,.string ⟨#[]⟩]) ⟨⟨_,Tryz.underlying31,rfl⟩,by kernel_rfl⟩ rfl ⟨⟨_,_,Tryz.underlying31,rfl,rfl,by kernel_rfl⟩,⟨_,_,Tryz.underlying31,rfl,rfl,by kernel_rfl⟩,⟨_,_,Tryz.underlying31,rfl,rfl,by kernel_rfl⟩,⟨_,_,Tryz.underlying31,rfl,rfl,by kernel_rfl⟩,trivial⟩ (by unfold TZ;kernel_rfl) rfl (bp rfl) ⟨_,Tryz.underlying31,by kernel_rfl⟩ (fun ks h=>by cases h),
 oL ⟨⟨_,Tryz.underlying34,rfl⟩,by kernel_rfl⟩ Tryz.underlying34 (by unfold TZ;kernel_rfl),
 kO (z:=.agg #[.int .i64 0,.slice none 0 0]) ⟨⟨_,Tryz.underlying36,rfl⟩,by kernel_rfl⟩ rfl ⟨⟨_,_,Tryz.underlying36,rfl,rfl,by kernel_rfl⟩,⟨_,_,Tryz.underlying36,rfl,rfl,by kernel_rfl⟩,trivial⟩ (by unfold TZ;kernel_rfl) rfl (bp rfl) ⟨_,Tryz.underlying36,by kernel_rfl⟩ (fun ks h=>by cases h),
 oL ⟨⟨_,Tryz.underlying37,rfl⟩,by kernel_rfl⟩ Tryz.underlying37 (by unfold TZ;kernel_rfl),
 oL ⟨⟨_,Tryz.underlying38,rfl⟩,by kernel_rfl⟩ Tryz.underlying38 (by unfold TZ;kernel_rfl),
 kO (z:=.agg #[.slice none 0 0,.slice none 0 0]) ⟨⟨_,Tryz.underlying40,rfl⟩,by kernel_rfl⟩ rfl ⟨⟨_,_,Tryz.underlying40,rfl,rfl,by kernel_rfl⟩,⟨_,_,Tryz.underlying40,rfl,rfl,by kernel_rfl⟩,trivial⟩ (by unfold TZ;kernel_rfl) rfl (bp rfl) ⟨_,Tryz.underlying40,by kernel_rfl⟩ (fun ks h=>by cases h),
 oL ⟨⟨_,Tryz.underlying41,rfl⟩,by kernel_rfl⟩ Tryz.underlying41 (by unfold TZ;kernel_rfl),
 kO (z:=.agg #[.int .i64 0,.slice none 0 0,.slice none 0 0,.slice none 0 0,.slice none 0 0,.string ⟨#[]⟩]) ⟨⟨_,Tryz.underlying43,rfl⟩,by kernel_rfl⟩ rfl ⟨⟨_,_,Tryz.underlying43,rfl,rfl,by kernel_rfl⟩,⟨_,_,Tryz.underlying43,rfl,rfl,by kernel_rfl⟩,⟨_,_,Tryz.underlying43,rfl,rfl,by kernel_rfl⟩,⟨_,_,Tryz.underlying43,rfl,rfl,by kernel_rfl⟩,trivial⟩ (by unfold TZ;kernel_rfl) rfl (bp rfl) ⟨_,Tryz.underlying43,by kernel_rfl⟩ (fun ks h=>by cases h),
 oL ⟨⟨_,Tryz.underlying54,rfl⟩,by kernel_rfl⟩ Tryz.underlying54 (by unfold TZ;kernel_rfl),
 kO (z:=.agg #[.slice none 0 0]) ⟨⟨_,Tryz.underlying56,rfl⟩,by kernel_rfl⟩ rfl ⟨⟨_,_,Tryz.underlying56,rfl,rfl,by kernel_rfl⟩,trivial⟩ (by unfold TZ;kernel_rfl) rfl (bp rfl) ⟨_,Tryz.underlying56,by kernel_rfl⟩ (fun ks h=>by cases h),
 oL ⟨⟨_,Tryz.underlying59,rfl⟩,by kernel_rfl⟩ Tryz.underlying59 (by unfold TZ;kernel_rfl),
 kO (z:=.agg #[.slice none 0 0]) ⟨⟨_,Tryz.underlying61,rfl⟩,by kernel_rfl⟩ rfl ⟨⟨_,_,Tryz.underlying61,rfl,rfl,by kernel_rfl⟩,trivial⟩ (by unfold TZ;kernel_rfl) rfl (bp rfl) ⟨_,Tryz.underlying61,by kernel_rfl⟩ (fun ks h=>by cases h),
 oL ⟨⟨_,Tryz.underlying66,rfl⟩,by kernel_rfl⟩ Tryz.underlying66 (by unfold TZ;kernel_rfl),
 kO (z:=.agg #[.slice none 0 0]) ⟨⟨_,Tryz.underlying68,rfl⟩,by kernel_rfl⟩ rfl ⟨⟨_,_,Tryz.underlying68,rfl,rfl,by kernel_rfl⟩,trivial⟩ (by unfold TZ;kernel_rfl) rfl (bp rfl) ⟨_,Tryz.underlying68,by kernel_rfl⟩ (fun ks h=>by cases h),
 oL ⟨⟨_,Tryz.underlying71,rfl⟩,by kernel_rfl⟩ Tryz.underlying71 (by unfold TZ;kernel_rfl),
 kO (z:=.agg #[.slice none 0 0]) ⟨⟨_,Tryz.underlying73,rfl⟩,by kernel_rfl⟩ rfl ⟨⟨_,_,Tryz.underlying73,rfl,rfl,by kernel_rfl⟩,trivial⟩ (by unfold TZ;kernel_rfl) rfl (bp rfl) ⟨_,Tryz.underlying73,by kernel_rfl⟩ (fun ks h=>by cases h),
 kO (z:=.agg #[.int .i64 0,.int .i64 0,.int .i64 0]) ⟨⟨_,Tryz.underlying88,rfl⟩,by kernel_rfl⟩ rfl ⟨⟨_,_,Tryz.underlying88,rfl,rfl,by kernel_rfl⟩,⟨_,_,Tryz.underlying88,rfl,rfl,by kernel_rfl⟩,⟨_,_,Tryz.underlying88,rfl,rfl,by kernel_rfl⟩,trivial⟩ (by unfold TZ;kernel_rfl) rfl (bp rfl) ⟨_,Tryz.underlying88,by kernel_rfl⟩ (fun ks h=>by cases h),
 oL ⟨⟨_,Tryz.underlying91,rfl⟩,by kernel_rfl⟩ Tryz.underlying91 (by unfold TZ;kernel_rfl),
 oL ⟨⟨_,Tryz.underlying92,rfl⟩,by kernel_rfl⟩ Tryz.underlying92 (by unfold TZ;kernel_rfl),
 Ae (ty:=.bool) (b:=8) ⟨⟨_,Tryz.underlying108,rfl⟩,by kernel_rfl⟩ rfl (by unfold TZ;kernel_rfl),
 oL ⟨⟨_,Tryz.underlying124,rfl⟩,by kernel_rfl⟩ Tryz.underlying124 (by unfold TZ;kernel_rfl),
 kO (z:=.agg #[.slice none 0 0,.slice none 0 0]) ⟨⟨_,Tryz.underlying126,rfl⟩,by kernel_rfl⟩ rfl ⟨⟨_,_,Tryz.underlying126,rfl,rfl,by kernel_rfl⟩,⟨_,_,Tryz.underlying126,rfl,rfl,by kernel_rfl⟩,trivial⟩ (by unfold TZ;kernel_rfl) rfl (bp rfl) ⟨_,Tryz.underlying126,by kernel_rfl⟩ (fun ks h=>by cases h),
 kO (z:=.agg #[.int .i64 0,.int .i64 0,.int .i64 0]) ⟨⟨_,Tryz.underlying133,rfl⟩,by kernel_rfl⟩ rfl ⟨⟨_,_,Tryz.underlying133,rfl,rfl,by kernel_rfl⟩,⟨_,_,Tryz.underlying133,rfl,rfl,by kernel_rfl⟩,⟨_,_,Tryz.underlying133,rfl,rfl,by kernel_rfl⟩,trivial⟩ (by unfold TZ;kernel_rfl) rfl (bp rfl) ⟨_,Tryz.underlying133,by kernel_rfl⟩ (fun ks h=>by cases h),
 Ae (ty:=.bool) (b:=8) ⟨⟨_,Tryz.underlying134,rfl⟩,by kernel_rfl⟩ rfl (by unfold TZ;kernel_rfl),
 kO (z:=.agg #[.int .i64 0,.slice none 0 0,.int .i64 0]) ⟨⟨_,Tryz.underlying137,rfl⟩,by kernel_rfl⟩ rfl ⟨⟨_,_,Tryz.underlying137,rfl,rfl,by kernel_rfl⟩,⟨_,_,Tryz.underlying137,rfl,rfl,by kernel_rfl⟩,⟨_,_,Tryz.underlying137,rfl,rfl,by kernel_rfl⟩,trivial⟩ (by unfold TZ;kernel_rfl) rfl (bp rfl) ⟨_,Tryz.underlying137,by kernel_rfl⟩ (fun ks h=>by cases h),
 Ae (ty:=.bool) (b:=8) ⟨⟨_,Tryz.underlying138,rfl⟩,by kernel_rfl⟩ rfl (by unfold TZ;kernel_rfl),
 kO (z:=.agg #[.int .i64 0,.int .i64 0,.int .i64 0,.int .i64 0]) ⟨⟨_,Tryz.underlying161,rfl⟩,by kernel_rfl⟩ rfl ⟨⟨_,_,Tryz.underlying161,rfl,rfl,by kernel_rfl⟩,⟨_,_,Tryz.underlying161,rfl,rfl,by kernel_rfl⟩,⟨_,_,Tryz.underlying161,rfl,rfl,by kernel_rfl⟩,⟨_,_,Tryz.underlying161,rfl,rfl,by kernel_rfl⟩,trivial⟩ (by unfold TZ;kernel_rfl) rfl (bp rfl) ⟨_,Tryz.underlying161,by kernel_rfl⟩ (fun ks h=>by obtain rfl:=ae h;exact fun w a0 b0 a1 b1 a2 b2 a3 b3=>Xl a0 a1 a2 a3 b0 b1 b2 b3 w),
 kO (z:=.agg #[.int .i64 0,.int .i64 0,.int .i64 0,.int .i64 0]) ⟨⟨_,Tryz.underlying163,rfl⟩,by kernel_rfl⟩ rfl ⟨⟨_,_,Tryz.underlying163,rfl,rfl,by kernel_rfl⟩,⟨_,_,Tryz.underlying163,rfl,rfl,by kernel_rfl⟩,⟨_,_,Tryz.underlying163,rfl,rfl,by kernel_rfl⟩,⟨_,_,Tryz.underlying163,rfl,rfl,by kernel_rfl⟩,trivial⟩ (by unfold TZ;kernel_rfl) rfl (bp rfl) ⟨_,Tryz.underlying163,by kernel_rfl⟩ (fun ks h=>by cases h),
 kO (z:=.agg #[.int .i64 0,.int .i64 0,.int .i64 0,.int .i64 0]) ⟨⟨_,Tryz.underlying168,rfl⟩,by kernel_rfl⟩ rfl ⟨⟨_,_,Tryz.underlying168,rfl,rfl,by kernel_rfl⟩,⟨_,_,Tryz.underlying168,rfl,rfl,by kernel_rfl⟩,⟨_,_,Tryz.underlying168,rfl,rfl,by kernel_rfl⟩,⟨_,_,Tryz.underlying168,rfl,rfl,by kernel_rfl⟩,trivial⟩ (by unfold TZ;kernel_rfl) rfl (bp rfl) ⟨_,Tryz.underlying168,by kernel_rfl⟩ (fun ks h=>by obtain rfl:=ae h;exact fun w a0 b0 a1 b1 a2 b2 a3 b3=>Xm a0 a1 a2 a3 b0 b1 b2 b3 w),
 kO (z:=.agg #[.bool false,.int .i64 0,.int .i64 0,.int .i64 0,.int .i64 0]) ⟨⟨_,Tryz.underlying170,rfl⟩,by kernel_rfl⟩ rfl ⟨⟨_,_,Tryz.underlying170,rfl,rfl,by kernel_rfl⟩,⟨_,_,Tryz.underlying170,rfl,rfl,by kernel_rfl⟩,trivial⟩ (by unfold TZ;kernel_rfl) rfl (bp rfl) ⟨_,Tryz.underlying170,by kernel_rfl⟩ (fun ks h=>by cases h),
 kO (z:=.agg #[.int .i64 0,.int .i64 0,.int .i64 0,.int .i64 0]) ⟨⟨_,Tryz.underlying172,rfl⟩,by kernel_rfl⟩ rfl ⟨⟨_,_,Tryz.underlying172,rfl,rfl,by kernel_rfl⟩,⟨_,_,Tryz.underlying172,rfl,rfl,by kernel_rfl⟩,⟨_,_,Tryz.underlying172,rfl,rfl,by kernel_rfl⟩,⟨_,_,Tryz.underlying172,rfl,rfl,by kernel_rfl⟩,trivial⟩ (by unfold TZ;kernel_rfl) rfl (bp rfl) ⟨_,Tryz.underlying172,by kernel_rfl⟩ (fun ks h=>by cases h),
 kO (z:=.agg #[.bool false,.int .i64 0,.int .i64 0,.int .i64 0,.int .i64 0]) ⟨⟨_,Tryz.underlying174,rfl⟩,by kernel_rfl⟩ rfl ⟨⟨_,_,Tryz.underlying174,rfl,rfl,by kernel_rfl⟩,⟨_,_,Tryz.underlying174,rfl,rfl,by kernel_rfl⟩,trivial⟩ (by unfold TZ;kernel_rfl) rfl (bp rfl) ⟨_,Tryz.underlying174,by kernel_rfl⟩ (fun ks h=>by cases h),
 oL ⟨⟨_,Tryz.underlying177,rfl⟩,by kernel_rfl⟩ Tryz.underlying177 (by unfold TZ;kernel_rfl),
 kO (z:=.agg #[.slice none 0 0,.slice none 0 0]) ⟨⟨_,Tryz.underlying179,rfl⟩,by kernel_rfl⟩ rfl ⟨⟨_,_,Tryz.underlying179,rfl,rfl,by kernel_rfl⟩,⟨_,_,Tryz.underlying179,rfl,rfl,by kernel_rfl⟩,trivial⟩ (by unfold TZ;kernel_rfl) rfl (bp rfl) ⟨_,Tryz.underlying179,by kernel_rfl⟩ (fun ks h=>by cases h),
 oL ⟨⟨_,Tryz.underlying181,rfl⟩,by kernel_rfl⟩ Tryz.underlying181 (by unfold TZ;kernel_rfl),
 oL ⟨⟨_,Tryz.underlying182,rfl⟩,by kernel_rfl⟩ Tryz.underlying182 (by unfold TZ;kernel_rfl),
 kO (z:=.agg #[.int .i64 0,.slice none 0 0,.slice none 0 0]) ⟨⟨_,Tryz.underlying184,rfl⟩,by kernel_rfl⟩ rfl ⟨⟨_,_,Tryz.underlying184,rfl,rfl,by kernel_rfl⟩,⟨_,_,Tryz.underlying184,rfl,rfl,by kernel_rfl⟩,⟨_,_,Tryz.underlying184,rfl,rfl,by kernel_rfl⟩,trivial⟩ (by unfold TZ;kernel_rfl) rfl (bp rfl) ⟨_,Tryz.underlying184,by kernel_rfl⟩ (fun ks h=>by cases h),
 kO (z:=.agg #[.int .i64 0,.slice none 0 0,.int .i64 0]) ⟨⟨_,Tryz.underlying187,rfl⟩,by kernel_rfl⟩ rfl ⟨⟨_,_,Tryz.underlying187,rfl,rfl,by kernel_rfl⟩,⟨_,_,Tryz.underlying187,rfl,rfl,by kernel_rfl⟩,⟨_,_,Tryz.underlying187,rfl,rfl,by kernel_rfl⟩,trivial⟩ (by unfold TZ;kernel_rfl) rfl (bp rfl) ⟨_,Tryz.underlying187,by kernel_rfl⟩ (fun ks h=>by cases h),
 kO (z:=.agg #[.int .i64 0,.slice none 0 0,.slice none 0 0]) ⟨⟨_,Tryz.underlying189,rfl⟩,by kernel_rfl⟩ rfl ⟨⟨_,_,Tryz.underlying189,rfl,rfl,by kernel_rfl⟩,⟨_,_,Tryz.underlying189,rfl,rfl,by kernel_rfl⟩,⟨_,_,Tryz.underlying189,rfl,rfl,by kernel_rfl⟩,trivial⟩ (by unfold TZ;kernel_rfl) rfl (bp rfl) ⟨_,Tryz.underlying189,by kernel_rfl⟩ (fun ks h=>by cases h),
 Ae (ty:=.bool) (b:=8) ⟨⟨_,Tryz.underlying194,rfl⟩,by kernel_rfl⟩ rfl (by unfold TZ;kernel_rfl),
 Ae (ty:=.bool) (b:=8) ⟨⟨_,Tryz.underlying200,rfl⟩,by kernel_rfl⟩ rfl (by unfold TZ;kernel_rfl),
 Ae (ty:=.bool) (b:=8) ⟨⟨_,Tryz.underlying204,rfl⟩,by kernel_rfl⟩ rfl (by unfold TZ;kernel_rfl),
 oL ⟨⟨_,Tryz.underlying205,rfl⟩,by kernel_rfl⟩ Tryz.underlying205 (by unfold TZ;kernel_rfl),
 oL ⟨⟨_,Tryz.underlying222,rfl⟩,by kernel_rfl⟩ Tryz.underlying222 (by unfold TZ;kernel_rfl),
 kO (z:=.agg #[.slice none 0 0,.int .i64 0,.int .i64 0,.slice none 0 0,.bool false]) ⟨⟨_,Tryz.underlying230,rfl⟩,by kernel_rfl⟩ rfl ⟨⟨_,_,Tryz.underlying230,rfl,rfl,by kernel_rfl⟩,⟨_,_,Tryz.underlying230,rfl,rfl,by kernel_rfl⟩,⟨_,_,Tryz.underlying230,rfl,rfl,by kernel_rfl⟩,⟨_,_,Tryz.underlying230,rfl,rfl,by kernel_rfl⟩,⟨_,_,Tryz.underlying230,rfl,rfl,by kernel_rfl⟩,trivial⟩ (by unfold TZ;kernel_rfl) rfl (bp rfl) ⟨_,Tryz.underlying230,by kernel_rfl⟩ (fun ks h=>by cases h),
 kO (z:=.agg #[.bool false,.int .i64 0,.int .i64 0]) ⟨⟨_,Tryz.underlying263,rfl⟩,by kernel_rfl⟩ rfl ⟨⟨_,_,Tryz.underlying263,rfl,rfl,by kernel_rfl⟩,⟨_,_,Tryz.underlying263,rfl,rfl,by kernel_rfl⟩,⟨_,_,Tryz.underlying263,rfl,rfl,by kernel_rfl⟩,trivial⟩ (by unfold TZ;kernel_rfl) rfl (bp rfl) ⟨_,Tryz.underlying263,by kernel_rfl⟩ (fun ks h=>by cases h),
 kO (z:=.agg #[.int .i64 0,.int .i64 0,.bool false]) ⟨⟨_,Tryz.underlying272,rfl⟩,by kernel_rfl⟩ rfl ⟨⟨_,_,Tryz.underlying272,rfl,rfl,by kernel_rfl⟩,⟨_,_,Tryz.underlying272,rfl,rfl,by kernel_rfl⟩,⟨_,_,Tryz.underlying272,rfl,rfl,by kernel_rfl⟩,trivial⟩ (by unfold TZ;kernel_rfl) rfl (bp rfl) ⟨_,Tryz.underlying272,by kernel_rfl⟩ (fun ks h=>by cases h),
 YL (e:=302) (E:=274) (u:=xF) ⟨⟨_,Tryz.underlying274,rfl⟩,by kernel_rfl⟩ Tryz.underlying274 (by unfold TZ;kernel_rfl),
 Ae (ty:=.bool) (b:=8) ⟨⟨_,Tryz.underlying277,rfl⟩,by kernel_rfl⟩ rfl (by unfold TZ;kernel_rfl),
 Ae (ty:=.bool) (b:=8) ⟨⟨_,Tryz.underlying279,rfl⟩,by kernel_rfl⟩ rfl (by unfold TZ;kernel_rfl),
 Ae (ty:=.bool) (b:=8) ⟨⟨_,Tryz.underlying290,rfl⟩,by kernel_rfl⟩ rfl (by unfold TZ;kernel_rfl),
 ug (n:=1) (z:=.int .u64 0) ⟨⟨_,Tryz.underlying295,rfl⟩,by kernel_rfl⟩ rfl (by unfold TZ;kernel_rfl) rfl (bp rfl) (fun h=>by cases h) (fun k h=>by obtain rfl:=ae h;exact Tryz.underlying295),
 oL ⟨⟨_,Tryz.underlying300,rfl⟩,by kernel_rfl⟩ Tryz.underlying300 (by unfold TZ;kernel_rfl),
 kO (z:=.agg #[.int .i64 0,.int .i64 0,.int .i64 0,.int .i64 0,.slice none 0 0]) ⟨⟨_,Tryz.underlying302,rfl⟩,by kernel_rfl⟩ rfl ⟨⟨_,_,Tryz.underlying302,rfl,rfl,by kernel_rfl⟩,⟨_,_,Tryz.underlying302,rfl,rfl,by kernel_rfl⟩,trivial⟩ (by unfold TZ;kernel_rfl) rfl (bp rfl) ⟨_,Tryz.underlying302,by kernel_rfl⟩ (fun ks h=>by cases h),
 YK (m:=⟨3,3,.int,.int⟩) (ty:=.bool) ⟨⟨_,Tryz.underlying306,rfl⟩,by kernel_rfl⟩ rfl ⟨Tryz.underlying306,kk3,ek3⟩,
 Ae (ty:=.bool) (b:=8) ⟨⟨_,Tryz.underlying308,rfl⟩,by kernel_rfl⟩ rfl (by unfold TZ;kernel_rfl),
 ug (n:=1) (z:=.int .u64 0) ⟨⟨_,Tryz.underlying321,rfl⟩,by kernel_rfl⟩ rfl (by unfold TZ;kernel_rfl) rfl (bp rfl) (fun h=>by cases h) (fun k h=>by obtain rfl:=ae h;exact Tryz.underlying321),
 ug (n:=1) (z:=.int .u32 0) ⟨⟨_,Tryz.underlying344,rfl⟩,by kernel_rfl⟩ rfl (by unfold TZ;kernel_rfl) rfl (bp rfl) (fun h=>by cases h) (fun k h=>by obtain rfl:=ae h;exact Tryz.underlying344),
 Ae (ty:=.bool) (b:=8) ⟨⟨_,Tryz.underlying351,rfl⟩,by kernel_rfl⟩ rfl (by unfold TZ;kernel_rfl),trivial⟩
theorem mixed:Tryz.prog.follows .mixedOrders=true:=by kernel_rfl
def Te (fn:Func):Code:=match fn.body with
 | some c=>c
 | none=>.skip
theorem fk {k:FuncId} {fn:Func} {f:FS} (ft:FT) (hF:FTok Tryz.prog ft) (hf:Tryz.prog.funcs[k]? =some fn) (ann:Ann) (an:List (Nat×Ty):=[]) (tr:Trs:=[]) (hb:fn.body=some (Te fn):=by rfl) (he:(fn.name == "runtime.NumGoroutine")=false:=by kernel_rfl) (hcl:f.cl=none:=by rfl) (hm:Nat.ble f.ps.length fn.ntmps=true:=by rfl) (hdp:(Fj f.rs&&zG f.ps)=true:=by rfl)
  (hmod: ∀d,appP f.ps f.m d=j9 ⟨tt,ft,an,fn.ntmps,tr⟩ (N4 ⟨tt,ft,an,fn.ntmps,tr⟩ fn.results.toList f.rs f.ps d) (Te fn) ann (fun r=>some r) (fun _ _=>none) (N4 ⟨tt,ft,an,fn.ntmps,tr⟩ fn.results.toList f.rs f.ps d) (qX (Ac f.ps d)):=by intro d;kernel_rfl):FOk Tryz.prog k f:=
 fok (V:=⟨tt,ft,an,fn.ntmps,tr⟩) Oc hF mixed hf hb rfl (enters_of hf he hb) hcl (bp hm) hdp ann hmod
def wT:FS:=⟨[.rd y91,.rd y3],[y3],sH,none⟩
def Ag:FS:=⟨[.rd Yc,.rd y3],[y3],uh,none⟩
def Ah:FS:=⟨[.rd Yd,.rd y3],[y3],pS,none⟩
def xG:FS:=⟨[.rd y22,.rd y3],[y3],rA,none⟩
def vy:FS:=⟨[.rd y24,.rd y3],[y3],mD,none⟩
def Ai:FS:=⟨[.rd Ge,.rd y3],[y3],ui,none⟩
def Aj:FS:=⟨[.rd K4,.rd y3],[y3],uj,none⟩
def rE:FS:=⟨[.rd Ye,.rd y3],[y3],kd,none⟩
def qx:FS:=⟨[.rd y25,.rd y3],[y3],mn,none⟩
def xH:FS:=⟨[.rd y54,.rd y3],[y3],rB,none⟩
def Cy:FS:=⟨[.rd y56,.rd y3],[y3],sI,none⟩
def qy:FS:=⟨[.rd Yf,.rd y3],[y3],je,none⟩
def pb:FS:=⟨[.rd y26,.rd y3],[y3],kU,none⟩
def tn:FS:=⟨[.rd y28,.rd y3],[y3],lu,none⟩
def pc:FS:=⟨[.rd y29,.rd y3],[y3],kV,none⟩
def xI:FS:=⟨[.rd y31,.rd y3],[y3],oe,none⟩
def kF:FS:=⟨[.rd y3,.rd y3,.rd y3],[y4],cH,none⟩
def Cz:FS:=⟨[.rd GX,.rd GW],[y4],Cx,none⟩
def qz:FS:=⟨[.rd GX],[y4],gp,none⟩
def vz:FS:=⟨[.rd y91,.rd y91],[y3],nj,none⟩
def kG:FS:=⟨[.rd y36],[y4],m_s_IsValidHistory,none⟩
def rF:FS:=⟨[.rd y3],[y4],lX,none⟩
def uv:FS:=⟨[.rd xF],[y3],nk,none⟩
def CA:FS:=⟨[.rd y61],[y4],sJ,none⟩
def rG:FS:=⟨[.rd y61],[y4],ke,none⟩
def qf:FS:=⟨[.rd y59],[y3],gR,none⟩
def qg (n:Nat):FS:=⟨[.rd y59],[y3],dM n,none⟩
def sS:FS:=⟨[.rd y59],[y61],gz,none⟩
def wU:FS:=⟨[.rd y61,.rd y61,.rd xF],[y61],kW,none⟩
def CB:FS:=⟨[.rd y3],[y61],o6,none⟩
def ot (n:Nat):FS:=⟨[.rd y61,.rd y3,.rd y3],[y61],jK n,none⟩
def mP (n:Nat):FS:=⟨[.rd y59],[y61],cO n,none⟩
def tq:FS:=⟨[.rd y61],[y61,y4],lz,none⟩
def Ak:FS:=⟨[.ptr 230 JQ,.rd y3,.rd y3],[],nl,none⟩
def ou (n:Nat):FS:=⟨[.ptr 230 JQ,.rd y59],[Zw],df n,none⟩
def ox:FS:=⟨[.rd y61],[JQ,y4],gG,none⟩
def xJ:FS:=⟨[.rd JQ,.rd y3,.rd y3],[y3],oi,none⟩
def uw:FS:=⟨[.rd y91,.rd y3],[y3],np,none⟩
def tu:FS:=⟨[.rd JQ,.rd y3],[y4],lA,none⟩
def tv:FS:=⟨[.rd JQ,.rd y3],[l9,y4],iU,none⟩
def tw:FS:=⟨[],[l9],oN,none⟩
def vA:FS:=⟨[.rd l9,.rd y91,.rd Ge],[l9],ix,none⟩
def uy:FS:=⟨[.rd l9],[Ge],kX,none⟩
def CC:FS:=⟨[.rd l9,.rd y91,.rd y3],[y91],o7,none⟩
def tx:FS:=⟨[.rd l9],[y91],iX,none⟩
def rH:FS:=⟨[.rd l9],[l9],gU,none⟩
def rI:FS:=⟨[.rd y61],[l9,y4],gV,none⟩
def k8:FS:=⟨[.rd l9,.rd l9],[y4],fB,none⟩
def xK:FS:=⟨[.rd y37,.rd l9],[y3],lY,none⟩
def xL:FS:=⟨[.rd y38],[y40,y4],oj,none⟩
def tz:FS:=⟨[.rd y61,.rd y61],[y4],lC,none⟩
def nw:FS:=⟨[.rd y40,.rd y40],[y4],fR,none⟩
def ny:FS:=⟨[.rd y40],[y4],fS,none⟩
def k9:FS:=⟨[.rd y36],[y3],cA,none⟩
def qi:FS:=⟨[.rd y40,.rd y3],[y3],iz,none⟩
def Al:FS:=⟨[.rd y43],[y4],uk,none⟩
def mQ:FS:=⟨[.rd y3],[y9],b7,none⟩
def mr:FS:=⟨[.rd y3],[y9],eG,none⟩
def oP:FS:=⟨[.rd GW],[y9],iY,none⟩
def nz:FS:=⟨[.rd y73],[y9],cP,none⟩
def xM:FS:=⟨[.rd y9],[y3],fI,none⟩
def qA:FS:=⟨[.rd y3,.rd y73],[y9],eH,none⟩
def vB:FS:=⟨[.rd y9,.rd y5],[YO],gX,none⟩
def rJ:FS:=⟨[.rd y9],[y3,y4],fJ,none⟩
def rK:FS:=⟨[.rd y9],[y3,y4],fD,none⟩
def vC:FS:=⟨[.rd y9],[GW,y4],fT,none⟩
def tC:FS:=⟨[.rd y9],[y73,y4],dH,none⟩
def qB:FS:=⟨[.rd y9],[y3,y73,y4],jg,none⟩
def Am:FS:=⟨[.rd y9],[y91,.sl 73 (.bag y73),y3],m_s_ScanLog,none⟩
def CD:FS:=⟨[.rd y43],[y4],wS,none⟩
def pd:FS:=⟨[.rd y43],[y4],iA,none⟩
def wV:FS:=⟨[.rd y91],[y91],o8,none⟩
def CE:FS:=⟨[.rd Yb],[GW],sK,none⟩
def An:FS:=⟨[.rd Yc],[VC],pU,none⟩
def Ao:FS:=⟨[.rd Yd],[GX],pV,none⟩
def xN:FS:=⟨[.rd y22],[y34],oo,none⟩
def vD:FS:=⟨[.rd y24],[y36],mG,none⟩
def Ap:FS:=⟨[.rd Ge],[Ge],pW,none⟩
def Aq:FS:=⟨[.rd K4],[K4],pX,none⟩
def rL:FS:=⟨[.rd Ye],[l9],kj,none⟩
def qC:FS:=⟨[.rd y25],[y37],jh,none⟩
def Ar:FS:=⟨[.rd YN],[xF],pY,none⟩
def xO:FS:=⟨[.rd y54],[y59],oq,none⟩
def CF:FS:=⟨[.rd y56],[y61],sL,none⟩
def qD:FS:=⟨[.rd Yf],[Bv],ji,none⟩
def pe:FS:=⟨[.rd y26],[y38],iB,none⟩
def tD:FS:=⟨[.rd y28],[y40],lG,none⟩
def qF:FS:=⟨[.rd YM],[y88],jj,none⟩
def pf:FS:=⟨[.rd y29],[y41],iC,none⟩
def xP:FS:=⟨[.rd y31],[y43],gZ,none⟩
def gB:FS:=⟨[.rd y3,.rd y3,.rd y3],[y4],bX,none⟩
def wW:FS:=⟨[.rd GW,.rd y3],[y4],jL,none⟩
def qG:FS:=⟨[.rd GX],[y4],cw,none⟩
def cW:FS:=⟨[.rd y91,.rd y91],[y4],b9,none⟩
def kH:FS:=⟨[.rd y36],[y4],m_i_IsValidHistory,none⟩
def rM:FS:=⟨[.rd y3],[y4],jM,none⟩
def As:FS:=⟨[.rd xF],[y4],pZ,none⟩
def bL:FS:=⟨[.rd Yg],[Yg],fun _=>none,some (274,8)⟩
def sU:FS:=⟨[.rd y61],[t274],mU,none⟩
def CG:FS:=⟨[.rd y61],[y4],sM,none⟩
def rN:FS:=⟨[.rd y61],[y4],km,none⟩
def lT (n:Nat):FS:=⟨[.rd t274],[y3],bS n,none⟩
def JR:FS:=⟨[.rd y3],[t274],DN,none⟩
def oy (n:Nat):FS:=⟨[.eat t274,.rd y3,.rd y3],[t274],jN n,none⟩
def kI (n:Nat):FS:=⟨[.rd t274],[t274],bD n,none⟩
def jA (n:Nat):FS:=⟨[.rd t274,.ptr 61 y61],[],bB n,none⟩
def vE:FS:=⟨[.rd t274],[y61],p8,none⟩
def tE:FS:=⟨[.rd y61],[y61,y4],lH,none⟩
def mA:FS:=⟨[.ptr 230 JQ,.rd y3,.rd y3],[],dz,none⟩
def gj (n:Nat):FS:=⟨[.ptr 230 JQ,.rd t274],[Zx],bE n,none⟩
def oz:FS:=⟨[.rd y61],[JQ,y4],gH,none⟩
def mu:FS:=⟨[.rd y3,.rd y3,.fn [y3] [y4],.fn [y3,y3] [y3,y4]],[l9,y4],eI,none⟩
def ma:FS:=⟨[.rd JQ,.rd y3],[y4],dk,none⟩
def nA:FS:=⟨[.rd JQ,.rd y3,.rd y3],[y3],fV,none⟩
def pg:FS:=⟨[.rd y3,.rd y3,.cap 230 JQ],[y3,y4],da,none⟩
def rO:FS:=⟨[.rd JQ,.rd y3],[l9,y4],hH,none⟩
def bO:FS:=⟨[.rd Ge],[Ge],fun _=>none,some (4,1)⟩
def oA:FS:=⟨[.rd l9],[Ge],eN,none⟩
def eB:FS:=⟨[.rd K4,.fn [y91] [y4]],[y3],bU,none⟩
def kQ:FS:=⟨[.rd y91,.cap 91 y91],[y4],gD,none⟩
def mB:FS:=⟨[.rd l9,.rd y91],[y91,y3],dA,none⟩
def mb:FS:=⟨[.rd l9],[y91],dq,none⟩
def nB:FS:=⟨[.rd Xk,.rd Xk],[Xk,Xk],um,none⟩
def nC:FS:=⟨[.rd Xj,.rd Xj],[Xj,Xj],nr,none⟩
def ph:FS:=⟨[.rd Xi,.rd Xi],[Xi,Xi],o9,none⟩
def ig:FS:=⟨[.rd y91,.rd y3],[y91],hY,none⟩
def At:FS:=⟨[],[l9],uo,none⟩
def iP:FS:=⟨[.rd y91,.rd y3],[y3],eD,none⟩
def jP:FS:=⟨[.rd y3,.cap 91 y91],[y3],ba,none⟩
def jQ:FS:=⟨[.rd y3,.cap 189 l9,.capf 308 [y3] [y3]],[y4],cD,none⟩
def oB:FS:=⟨[.rd l9,.rd y3,.rd y3],[y3],eO,none⟩
def jR:FS:=⟨[.rd y3,.rd y3,.cap 189 l9,.capf 308 [y3] [y3],.cap 91 y91],[y3,y4],cE,none⟩
def kR:FS:=⟨[.rd l9],[l9],cZ,none⟩
def Gf:FS:=⟨[.rd l9],[l9,y4],Af,none⟩
def rP:FS:=⟨[.rd y61],[l9,y4],hZ,none⟩
def cU:FS:=⟨[.rd y37,.fn [l9] [y4]],[y3],a8,none⟩
def gK:FS:=⟨[.rd Ge,.rd Ge],[y4],dE,none⟩
def cm:FS:=⟨[.rd K4,.rd K4,.fn [y91,y91] [y4]],[y4],bN,none⟩
def nD:FS:=⟨[.rd y91,.rd y91],[y4],fW,none⟩
def ld:FS:=⟨[.rd l9,.rd l9],[y4],dK,none⟩
def xQ:FS:=⟨[.rd l9,.cap 189 l9],[y4],l5,none⟩
def rQ:FS:=⟨[.rd y61],[y61],fK,none⟩
def CH:FS:=⟨[.rd y38],[y40,y4],sN,none⟩
def bI:FS:=⟨[.rd y37,.rd y37,.fn [l9,l9] [y4]],[y4],aZ,none⟩
def bC:FS:=⟨[.rd y38,.rd y38,.fn [Bv,Bv] [y4]],[y4],aW,none⟩
def fM:FS:=⟨[.rd y59,.rd y59],[y4],cj,none⟩
def tF:FS:=⟨[.rd y61,.rd y61],[y4],lI,none⟩
def qH:FS:=⟨[.rd Bv,.rd Bv],[y4],gr,none⟩
def nE:FS:=⟨[.rd y40,.rd y40],[y4],fX,none⟩
def nF:FS:=⟨[.rd y40],[y4],fY,none⟩
def pj:FS:=⟨[.rd y36],[y3],iD,none⟩
def cK:FS:=⟨[.rd y38,.fn [Bv] [y4]],[y3],bT,none⟩
def rR:FS:=⟨[.rd Bv,.cap 3 y3],[y4],kp,none⟩
def qj:FS:=⟨[.rd y40,.rd y3],[y3],iE,none⟩
def mc:FS:=⟨[.rd y9,.rd y5],[.int .i64],eP,none⟩
def qI:FS:=⟨[.rd y3],[.str],mo,none⟩
def qk:FS:=⟨[.rd y3],[y9],db,none⟩
def oQ:FS:=⟨[.rd GW],[y9],iZ,none⟩
def qJ:FS:=⟨[.rd YO,.rd y9],[.str],jk,none⟩
def nG:FS:=⟨[.rd y73],[y9],dP,none⟩
def xR:FS:=⟨[.rd y9],[y3],jO,none⟩
def qK:FS:=⟨[.rd y3,.rd y73],[y9],gu,none⟩
def lf:FS:=⟨[.rd y9,.rd y9],[.sl 9 .str],cF,none⟩
def rS:FS:=⟨[.rd y9],[.int .i64,.bool],fL,none⟩
def rT:FS:=⟨[.rd y9,.rd y9],[.str,.str,.bool],cS,none⟩
def vF:FS:=⟨[.rd y9],[GW,y4],fZ,none⟩
def tG:FS:=⟨[.rd y9],[y73,y4],dI,none⟩
def qL:FS:=⟨[.rd y9],[y3,y73,y4],jl,none⟩
def Au:FS:=⟨[.rd y9],[y91,.sl 73 (.bag y73),y3],m_i_ScanLog,none⟩
def pn:FS:=⟨[.rd y43],[y4],iF,none⟩
def wX:FS:=⟨[.rd y91,.rd y91],[y4],sO,none⟩
def CI:FS:=⟨[.rd GW,.rd GW],[y4],sP,none⟩
def Av:FS:=⟨[.rd VC,.rd VC],[y4],uq,none⟩
def Aw:FS:=⟨[.rd GX,.rd GX],[y4],p9,none⟩
def xS:FS:=⟨[.rd y34,.rd y34],[y4],rC,none⟩
def vG:FS:=⟨[.rd y36,.rd y36],[y4],mI,none⟩
def Ax:FS:=⟨[.rd Ge,.rd Ge],[y4],ur,none⟩
def Ay:FS:=⟨[.rd K4,.rd K4],[y4],uu,none⟩
def rU:FS:=⟨[.rd l9,.rd l9],[y4],kt,none⟩
def qM:FS:=⟨[.rd y37,.rd y37],[y4],mq,none⟩
def Az:FS:=⟨[.rd xF,.rd xF],[y4],qa,none⟩
def xT:FS:=⟨[.rd y59,.rd y59],[y4],rD,none⟩
def CJ:FS:=⟨[.rd y61,.rd y61],[y4],sQ,none⟩
def qN:FS:=⟨[.rd Bv,.rd Bv],[y4],jm,none⟩
def po:FS:=⟨[.rd y38,.rd y38],[y4],kZ,none⟩
def tH:FS:=⟨[.rd y40,.rd y40],[y4],lM,none⟩
def qO:FS:=⟨[.rd y88,.rd y88],[y4],jn,none⟩
def pq:FS:=⟨[.rd y41,.rd y41],[y4],k7,none⟩
def xU:FS:=⟨[.rd y43,.rd y43],[y4],ic,none⟩
def CK:FS:=⟨[.rd GX],[GX],pa,none⟩
def CL:FS:=⟨[.rd y36],[y36],sR,none⟩
def AA:FS:=⟨[.rd l9],[l9],qb,none⟩
def AB:FS:=⟨[.rd y40],[y40],qc,none⟩
def AC:FS:=⟨[.rd y43],[y43],qd,none⟩
def rV:FS:=⟨[.rd y91],[y91],l6,none⟩
def vH:FS:=⟨[.rd GX],[GX],kz,none⟩
def rW:FS:=⟨[.rd y36],[y36],kA,none⟩
def pv:FS:=⟨[.rd l9],[l9],iG,none⟩
def qP:FS:=⟨[.rd y40],[y40],jo,none⟩
def tI:FS:=⟨[.rd y43],[y43],lN,none⟩
def rX:FS:=⟨[.ow y91,.rd y3],[y3],l7,none⟩
def vI:FS:=⟨[.ow VC,.rd y3],[y3],mJ,none⟩
def tJ:FS:=⟨[.ow y34,.rd y3],[y3],lO,none⟩
def rY:FS:=⟨[.ow y36,.rd y3],[y3],kC,none⟩
def vJ:FS:=⟨[.ow Ge,.rd y3],[y3],mK,none⟩
def vK:FS:=⟨[.ow K4,.rd y3],[y3],mL,none⟩
def oC:FS:=⟨[.ow y37,.rd y3],[y3],gI,none⟩
def tK:FS:=⟨[.ow y59,.rd y3],[y3],lP,none⟩
def nH:FS:=⟨[.ow y38,.rd y3],[y3],gb,none⟩
def qQ:FS:=⟨[.ow y40,.rd y3],[y3],ju,none⟩
def nI:FS:=⟨[.ow y41,.rd y3],[y3],gf,none⟩
def tL:FS:=⟨[.ow y43,.rd y3],[y3],eY,none⟩
def rZ:FS:=⟨[.rd y91,.rd y3],[y3],l8,none⟩
def vL:FS:=⟨[.rd VC,.rd y3],[y3],mM,none⟩
def tM:FS:=⟨[.rd y34,.rd y3],[y3],lQ,none⟩
def sa:FS:=⟨[.rd y36,.rd y3],[y3],kE,none⟩
def vM:FS:=⟨[.rd Ge,.rd y3],[y3],mN,none⟩
def vN:FS:=⟨[.rd K4,.rd y3],[y3],mO,none⟩
def oD:FS:=⟨[.rd y37,.rd y3],[y3],gJ,none⟩
def tN:FS:=⟨[.rd y59,.rd y3],[y3],lR,none⟩
def nJ:FS:=⟨[.rd y38,.rd y3],[y3],gg,none⟩
def qR:FS:=⟨[.rd y40,.rd y3],[y3],jy,none⟩
def nK:FS:=⟨[.rd y41,.rd y3],[y3],gh,none⟩
def tO:FS:=⟨[.rd y43,.rd y3],[y3],gA,none⟩
def cL:FS:=⟨[.rd y41,.fn [y88] [y4]],[y3],aR,none⟩
def AD:FS:=⟨[.rd y41,.rd y3],[y3],qe,none⟩
def nL:FS:=⟨[.rd y43,.rd y3,.rd y3],[y43,y4],gi,none⟩
def qS:FS:=⟨[.rd y88,.cap 3 y3],[y4],jz,none⟩
def tP:FS:=⟨[.rd y43,.rd y3],[y3],oO,none⟩
def c7:FS:=⟨[.eat (.sl 88 y88),.rd y3,.ow (.sl 88 y88)],[.sl 88 y88],bG,none⟩
def nM:FS:=⟨[.rd y43,.rd y3,.rd y3],[y43,y4],dS,none⟩
def nW:FS:=⟨[.rd y31,.rd y3,.rd y3],[y4],cV,none⟩
end R
namespace R
open Go.RowKit
open D
theorem CM:FOk Tryz.prog 206 wT:=fk [] trivial Tryz.func206 .no
theorem HY:FOk Tryz.prog 207 Ag:=fk [] trivial Tryz.func207 .no
theorem HZ:FOk Tryz.prog 149 Ah:=fk [(206,wT),(207,Ag)] ⟨CM,HY,trivial⟩ Tryz.func149 .no
theorem Gg:FOk Tryz.prog 95 xG:=fk [(149,Ah)] ⟨HZ,trivial⟩ Tryz.func95 (.two .no (.two .no (.two .no (.two (.two .no (.loop [.slot 1 (.num .i64),.slot 5 (.num .i64)] .no)) .no))))
theorem DO:FOk Tryz.prog 40 vy:=fk [(95,xG)] ⟨Gg,trivial⟩ Tryz.func40 .no
theorem H0:FOk Tryz.prog 208 Ai:=fk [] trivial Tryz.func208 .no
theorem H1:FOk Tryz.prog 209 Aj:=fk [(206,wT)] ⟨CM,trivial⟩ Tryz.func209 (.two .no (.two .no (.two .no (.two (.two .no (.loop [.slot 1 (.num .i64),.slot 5 (.num .i64)] .no)) .no))))
theorem AE:FOk Tryz.prog 150 rE:=fk [(208,Ai),(209,Aj)] ⟨H0,H1,trivial⟩ Tryz.func150 .no
theorem yo:FOk Tryz.prog 96 qx:=fk [(150,rE)] ⟨AE,trivial⟩ Tryz.func96 (.two .no (.two .no (.two .no (.two (.two .no (.loop [.slot 1 (.num .i64),.slot 5 (.num .i64)] .no)) .no))))
theorem Gh:FOk Tryz.prog 82 xH:=fk [] trivial Tryz.func82 .no
theorem K5:FOk Tryz.prog 28 Cy:=fk [(82,xH)] ⟨Gh,trivial⟩ Tryz.func28 .no
theorem yp:FOk Tryz.prog 151 qy:=fk [(28,Cy)] ⟨K5,trivial⟩ Tryz.func151 .no
theorem wY:FOk Tryz.prog 97 pb:=fk [(151,qy)] ⟨yp,trivial⟩ Tryz.func97 (.two .no (.two .no (.two .no (.two (.two .no (.loop [.slot 1 (.num .i64),.slot 5 (.num .i64)] .no)) .no))))
theorem Bw:FOk Tryz.prog 41 tn:=fk [(96,qx),(97,pb)] ⟨yo,wY,trivial⟩ Tryz.func41 .no
theorem wZ:FOk Tryz.prog 42 pc:=fk [] trivial Tryz.func42 .no
theorem Gi:FOk Tryz.prog 11 xI:=fk [(40,vy),(41,tn),(42,pc)] ⟨DO,Bw,wZ,trivial⟩ Tryz.func11 .no
theorem lU:FOk Tryz.prog 59 kF:=fk [] trivial Tryz.func59 .no
end R
namespace R
open Go.RowKit
open D
theorem K6:FOk Tryz.prog 152 Cz:=fk [(59,kF)] ⟨lU,trivial⟩ Tryz.func152 .no
theorem yq:FOk Tryz.prog 98 qz:=fk [(59,kF),(152,Cz)] ⟨lU,K6,trivial⟩ Tryz.func98 (.two .no (.two (.two .no (.loop [.slot 3 (.num .i64)] .no)) (.two (.two .no (.loop [.slot 4 (.num .i64)] .no)) .no)))
theorem AF:FOk Tryz.prog 99 vz:=fk [] trivial Tryz.func99 (.two .no (.two (.two .no (.loop [.slot 5 (.num .i64)] .no)) .no))
theorem oE:FOk Tryz.prog 43 kG:=fk [(59,kF),(98,qz),(99,vz)] ⟨lU,yq,AF,trivial⟩ Tryz.func43 (.two .no (.two (.two .no (.loop [.slot 3 (.num .i64)] .no)) .no))
theorem xV:FOk Tryz.prog 276 rF:=fk [(59,kF)] ⟨lU,trivial⟩ Tryz.func276 .no
theorem AG:FOk Tryz.prog 322 uv:=fk [(59,kF),(276,rF)] ⟨lU,xV,trivial⟩ Tryz.func322 (.two .no (.two (.two .no (.join [.slot 5 .boo] .no (.two .no (.two .no (.two .no (.join [.slot 37 .boo] .no .no)))))) .no))
theorem K7:FOk Tryz.prog 319 CA:=fk [(322,uv)] ⟨AG,trivial⟩ Tryz.func319 (.two .no (.two .no (.two (.two .no (.loop [.slot 3 (.num .i64),.slot 4 (.num .i64)] .no)) .no)))
theorem AH:FOk Tryz.prog 281 rG:=fk [(319,CA)] ⟨K7,trivial⟩ Tryz.func281 .no
theorem uz:FOk Tryz.prog 284 qf:=fk [(322,uv)] ⟨AG,trivial⟩ Tryz.func284 (.two .no (.two .no (.two .no (.two (.loop [.slot 3 (.num .i64),.slot 4 (.num .i64)] .no) .no))))
theorem AI: ∀n,FOk Tryz.prog 282 (qg n)
 | 0=>ka (f:=qg 0) (enters_of Tryz.func282 (by kernel_rfl) rfl) rfl (fun d=>rfl)
 | n+1=>by
  have ih:=AI n
  exact fk [(282,(qg n)),(284,qf)] ⟨ih,uz,trivial⟩ Tryz.func282 (.two .no (.two .no (.two .no (.two (.two .no (.two (.two .no (.at [.slot 15 .boo] .no)) .no)) .no))))
theorem w4:FOk Tryz.prog 155 sS:=fk [] trivial Tryz.func155 .no
theorem CN:FOk Tryz.prog 320 wU:=fk [(155,sS)] ⟨w4,trivial⟩ Tryz.func320 .no
theorem K8:FOk Tryz.prog 343 CB:=fk [] trivial Tryz.func343 .no
theorem xW: ∀n,FOk Tryz.prog 321 (ot n)
 | 0=>ka (f:=ot 0) (enters_of Tryz.func321 (by kernel_rfl) rfl) rfl (fun d=>rfl)
 | n+1=>by
  have ih:=xW n
  exact fk [(320,wU),(321,(ot n)),(343,CB)] ⟨CN,ih,K8,trivial⟩ Tryz.func321 .no
theorem vO: ∀n,FOk Tryz.prog 283 (mP n)
 | 0=>ka (f:=mP 0) (enters_of Tryz.func283 (by kernel_rfl) rfl) rfl (fun d=>rfl)
 | n+1=>by
  have ih:=vO n
  exact fk [(283,(mP n)),(284,qf),(320,wU),(321,(ot gl))] ⟨ih,uz,CN,(xW gl),trivial⟩ Tryz.func283 (.two .no (.two .no (.two .no (.two (.two .no (.two (.two .no (.at [.slot 15 .boo] .no)) .no)) .no))))
theorem Bx:FOk Tryz.prog 248 tq:=fk [(281,rG),(282,(qg gl)),(283,(mP gl))] ⟨AH,(AI gl),(vO gl),trivial⟩ Tryz.func248 .no
theorem H2:FOk Tryz.prog 285 Ak:=fk [] trivial Tryz.func285 (.two .no (.loop [.slot 6 (.num .i64),.par 3 [3] 3 y3] (.two .no (.two (.at [.par 3 [3] 3 y3] .no) .no))))
end R
namespace R
open Go.RowKit
open D
theorem xX: ∀n,FOk Tryz.prog 249 (ou n)
 | 0=>ka (f:=ou 0) (enters_of Tryz.func249 (by kernel_rfl) rfl) rfl (fun d=>rfl)
 | n+1=>by
  have ih:=xX n
  exact fk [(249,(ou n)),(284,qf),(285,Ak)] ⟨ih,uz,H2,trivial⟩ Tryz.func249 (.two .no (.two .no (.two .no (.two (.two .no (.two .no (.two .no (.two .no (.two .no (.two .no (.two (.two .no (.two .no (.two .no (.two .no (.two .no (.two (.two .no (.at [.box 11 [.boo,(.num .i64),(.num .i64)]] .no)) (.two (.two .no (.at [.box 11 [.boo,(.num .i64),(.num .i64)]] .no)) .no))))))) .no))))))) .no))))
theorem vP:FOk Tryz.prog 210 ox:=fk [(248,tq),(249,(ou gl))] ⟨Bx,(xX gl),trivial⟩ Tryz.func210 (.two .no (.two .no (.two .no (.two .no (.two (.two .no (.loop [.slot 6 (.num .i64),.slot 7 (.num .i64)] (.two .no (.two (.at [.slot 6 (.num .i64)] .no) .no)))) .no)))))
theorem Gj:FOk Tryz.prog 250 xJ:=fk [] trivial Tryz.func250 (.two .no (.two .no (.join [.slot 7 (.num .i64)] .no (.two (.two .no (.loop [.slot 7 (.num .i64),.slot 8 (.num .i64)] (.two .no (.join [.slot 7 (.num .i64)] .no .no)))) (.two .no (.two (.two .no (.loop [.slot 9 (.num .i64),.slot 10 (.num .i64)] (.two .no (.join [.slot 9 (.num .i64)] .no .no)))) .no))))))
theorem AJ:FOk Tryz.prog 251 uw:=fk [] trivial Tryz.func251 (.two .no (.two (.two .no (.loop [.slot 5 (.num .i64)] .no)) .no))
theorem By:FOk Tryz.prog 252 tu:=fk [] trivial Tryz.func252 .no
theorem Bz:FOk Tryz.prog 211 tv:=fk [(250,xJ),(251,uw),(252,tu)] ⟨Gj,AJ,By,trivial⟩ Tryz.func211 (.two .no (.two .no (.two .no (.two (.two .no (.loop [.slot 7 (.own 3 y3),.slot 8 (.num .i64),.box 6 [(.num .i64),(.own 4 y4),(.own 91 y91)]] (.two .no (.two (.two .no (.two (.two .no (.loop [.slot 7 (.own 3 y3),.slot 9 (.own 3 y3),.slot 10 (.num .i64)] (.two .no (.two (.two .no (.two .no (.join [.slot 7 (.own 3 y3),.slot 12 (.num .i64)] .no .no))) .no)))) .no)) .no)))) .no))))
theorem BA:FOk Tryz.prog 286 tw:=fk [] trivial Tryz.func286 (.two .no (.two .no (.two (.two .no (.loop [.slot 1 (.own 3 y3),.slot 2 (.num .i64)] .no)) .no)))
theorem DP:FOk Tryz.prog 253 vA:=fk [(251,uw),(286,tw)] ⟨AJ,BA,trivial⟩ Tryz.func253 (.two .no (.two .no (.two .no (.two .no (.two .no (.two (.two .no (.loop [.slot 8 (.own 3 y3),.slot 9 (.own 3 y3),.slot 10 (.num .i64),.box 7 [(.num .i64),(.own 4 y4),(.own 91 y91)]] (.two .no (.two (.two .no (.two (.two .no (.loop [.slot 8 (.own 3 y3),.slot 9 (.own 3 y3),.slot 11 (.own 3 y3),.slot 12 (.num .i64)] (.two .no (.two (.two .no (.two .no (.join [.slot 8 (.own 3 y3),.slot 9 (.own 3 y3),.slot 14 (.num .i64)] .no .no))) .no)))) .no)) .no)))) .no))))))
theorem AK:FOk Tryz.prog 255 uy:=fk [] trivial Tryz.func255 (.two .no (.two .no (.two (.two .no (.loop [.row 3 4 y4,.slot 4 (.num .i64)] (.two .no (.two (.two .no (.loop [.row 3 4 y4,.slot 5 (.num .i64)] (.two .no (.two (.two .no (.loop [.row 3 4 y4,.slot 6 (.num .i64)] (.two .no (.join [.row 3 4 y4] .no .no)))) .no)))) .no)))) .no)))
theorem K9:FOk Tryz.prog 287 CC:=fk [] trivial Tryz.func287 (.two .no (.two .no (.two (.two .no (.loop [.slot 7 (.own 3 y3),.slot 8 (.num .i64)] (.two .no (.join [.slot 7 (.own 3 y3)] .no .no)))) .no)))
theorem BB:FOk Tryz.prog 254 tx:=fk [(99,vz),(255,uy),(287,CC)] ⟨AF,AK,K9,trivial⟩ Tryz.func254 (.two .no (.two .no (.two .no (.two (.two .no (.loop [.slot 4 (.own 3 y3),.slot 5 (.num .i64)] (.two .no (.two (.two .no (.two (.two .no (.at [.slot 6 (.num .i64)] .no)) (.two (.two .no (.at [.slot 6 (.num .i64)] .no)) .no))) .no)))) (.two (.two .no (.loop [.slot 4 (.own 3 y3),.slot 7 (.num .i64)] (.two .no (.two (.two .no (.two .no (.two (.two .no (.loop [.slot 8 (.own 91 y91),.slot 9 (.own 3 y3),.slot 10 (.num .i64)] (.two .no (.two (.at [.slot 8 (.own 91 y91),.slot 9 (.own 3 y3)] (.two .no (.two .no (.two .no (.two (.two .no (.loop [.slot 12 (.num .i64),.slot 13 (.num .i64)] (.two .no (.two (.at [.slot 12 (.num .i64)] .no) .no)))) (.two (.two .no (.at [.slot 8 (.own 91 y91),.slot 12 (.num .i64),.gone 11] .no)) .no)))))) .no)))) .no))) .no)))) .no)))))
theorem AL:FOk Tryz.prog 212 rH:=fk [(253,vA),(254,tx),(255,uy)] ⟨DP,BB,AK,trivial⟩ Tryz.func212 .no
theorem AM:FOk Tryz.prog 153 rI:=fk [(210,ox),(211,tv),(212,rH)] ⟨vP,Bz,AL,trivial⟩ Tryz.func153 .no
theorem pw:FOk Tryz.prog 156 k8:=fk [(99,vz)] ⟨AF,trivial⟩ Tryz.func156 (.two .no (.two .no (.two (.two .no (.loop [.slot 5 (.num .i64)] .no)) (.two (.two .no (.loop [.slot 6 (.num .i64)] .no)) .no))))
theorem Gk:FOk Tryz.prog 154 xK:=fk [(156,k8)] ⟨pw,trivial⟩ Tryz.func154 (.two .no (.two (.two .no (.loop [.slot 5 (.num .i64)] .no)) .no))
theorem Gl:FOk Tryz.prog 100 xL:=fk [(59,kF),(153,rI),(154,xK),(155,sS)] ⟨lU,AM,Gk,w4,trivial⟩ Tryz.func100 (.two .no (.two .no (.two .no (.two (.two .no (.loop [.slot 5 (.num .i64),.box 4 [(.own 189 l9),(.own 137 Bv)]] (.two .no (.two (.two .no (.two .no (.two .no (.join [.slot 8 (.num .i64),.box 4 [(.own 189 l9),(.own 137 Bv)],.gone 6] .no .no)))) .no)))) .no))))
theorem BC:FOk Tryz.prog 157 tz:=fk [] trivial Tryz.func157 (.two .no (.two .no (.two (.two .no (.loop [.slot 5 (.num .i64)] .no)) .no)))
end R
namespace R
open Go.RowKit
open D
theorem uA:FOk Tryz.prog 101 nw:=fk [(156,k8),(157,tz)] ⟨pw,BC,trivial⟩ Tryz.func101 (.two .no (.two .no (.two (.two .no (.loop [.slot 5 (.num .i64)] .no)) (.two (.two .no (.loop [.slot 6 (.num .i64)] .no)) .no))))
theorem uB:FOk Tryz.prog 44 ny:=fk [(100,xL),(101,nw)] ⟨Gl,uA,trivial⟩ Tryz.func44 .no
theorem px:FOk Tryz.prog 63 k9:=fk [(43,kG)] ⟨oE,trivial⟩ Tryz.func63 .no
theorem vQ:FOk Tryz.prog 79 qi:=fk [] trivial Tryz.func79 (.two .no (.two (.two .no (.loop [.slot 5 (.num .i64)] .no)) .no))
theorem H3:FOk Tryz.prog 45 Al:=fk [(59,kF),(63,k9),(79,qi)] ⟨lU,px,vQ,trivial⟩ Tryz.func45 (.two .no (.two (.two .no (.loop [.slot 3 (.num .i64)] .no)) .no))
theorem ql:FOk Tryz.prog 144 mQ:=fk [] trivial Tryz.func144 (.two .no (.two .no (.two .no (.two .no (.two (.loop [.slot 0 (.num .i64),.slot 3 .str] (.two .no (.two .no (.two (.two .no (.at [.slot 5 (.num .i64)] .no)) .no)))) .no)))))
theorem qT:FOk Tryz.prog 243 mr:=fk [(276,rF)] ⟨xV,trivial⟩ Tryz.func243 .no
theorem tQ:FOk Tryz.prog 200 oP:=fk [(59,kF),(144,mQ),(243,mr)] ⟨lU,ql,qT,trivial⟩ Tryz.func200 .no
theorem sb:FOk Tryz.prog 143 nz:=fk [(200,oP)] ⟨tQ,trivial⟩ Tryz.func143 (.two .no (.two .no (.two .no (.two (.two .no (.loop [.slot 3 .str,.slot 4 (.num .i64)] (.two .no (.two (.atX [.slot 3 .str] (.two .no (.two .no (.two (.two .no (.at [.slot 3 .str] .no)) .no)))) .no)))) .no))))
theorem Gn:FOk Tryz.prog 145 xM:=fk [] trivial Tryz.func145 (.two .no (.two .no (.two (.two .no (.loop [.slot 3 (.num .i64),.slot 4 (.num .i64)] .no)) .no)))
theorem yr:FOk Tryz.prog 90 qA:=fk [(59,kF),(143,nz),(144,mQ),(145,xM)] ⟨lU,sb,ql,Gn,trivial⟩ Tryz.func90 .no
theorem AN:FOk Tryz.prog 177 vB:=fk [] trivial Tryz.func177 (.two .no (.two .no (.two .no (.two (.two .no (.loop [.slot 5 (.own 9 y9),.slot 6 (.num .i64),.slot 7 (.num .i64)] (.two .no (.two (.at [.slot 5 (.own 9 y9),.slot 6 (.num .i64)] .no) .no)))) .no))))
theorem xY:FOk Tryz.prog 178 rJ:=fk [(144,mQ)] ⟨ql,trivial⟩ Tryz.func178 (.two .no (.two .no (.two .no (.two (.two .no (.loop [.slot 4 (.num .i64),.slot 5 (.num .i64),.slot 6 (.num .i64)] (.two .no (.two (.at [.slot 4 (.num .i64),.slot 5 (.num .i64)] .no) .no)))) (.two (.two .no (.at [.slot 4 (.num .i64)] .no)) .no)))))
theorem AO:FOk Tryz.prog 271 rK:=fk [(243,mr)] ⟨qT,trivial⟩ Tryz.func271 (.two .no (.two (.two .no (.loop [.slot 4 (.num .i64)] .no)) .no))
theorem DQ:FOk Tryz.prog 232 vC:=fk [(177,vB),(178,rJ),(200,oP),(271,rK)] ⟨AN,xY,tQ,AO,trivial⟩ Tryz.func232 .no
theorem BD:FOk Tryz.prog 179 tC:=fk [(143,nz),(177,vB),(232,vC)] ⟨sb,AN,DQ,trivial⟩ Tryz.func179 (.two .no (.two .no (.two .no (.two .no (.two (.two .no (.loop [.slot 6 (.num .i64),.box 4 [(.own 170 (.prod y4 GW))]] .no)) .no)))))
theorem yt:FOk Tryz.prog 118 qB:=fk [(90,qA),(177,vB),(178,rJ),(179,tC)] ⟨yr,AN,xY,BD,trivial⟩ Tryz.func118 .no
end R
namespace R
open Go.RowKit
open D
theorem H4:FOk Tryz.prog 60 Am:=JN (ps:=[.rd y9]) (A:=y91) (E:=73) (t:=y73) (B:=y3) (m:=m_s_ScanLog) (fk [(118,qB)] ⟨yt,trivial⟩ Tryz.func60 (.two .no (.two .no (.two .no (.two .no (.two (.two .no (.loop [.slot 5 (.own 3 y3),.slot 6 (.own 73 y73),.slot 7 (.num .i64),.slot 8 (.num .i64)] (.two .no (.two (.atX [.slot 5 (.own 3 y3),.slot 6 (.own 73 y73),.slot 7 (.num .i64)] .no) .no)))) .no))))))
theorem La:FOk Tryz.prog 46 CD:=fk [(60,Am),(63,k9)] ⟨H4,px,trivial⟩ Tryz.func46 .no
theorem w5:FOk Tryz.prog 12 pd:=fk [(43,kG),(44,ny),(45,Al),(46,CD)] ⟨oE,uB,H3,La,trivial⟩ Tryz.func12 .no
theorem CO:FOk Tryz.prog 213 wV:=fk [] trivial Tryz.func213 (.two .no (.two .no (.two (.two .no (.loop [.row 3 3 y3,.slot 4 (.num .i64)] .no)) .no)))
theorem Lb:FOk Tryz.prog 201 CE:=fk [] trivial Tryz.func201 .no
theorem H5:FOk Tryz.prog 214 An:=fk [(201,CE)] ⟨Lb,trivial⟩ Tryz.func214 (.two .no (.two .no (.two (.two .no (.loop [.row 3 168 GW,.slot 4 (.num .i64)] .no)) .no)))
theorem H6:FOk Tryz.prog 158 Ao:=fk [(213,wV),(214,An)] ⟨CO,H5,trivial⟩ Tryz.func158 .no
theorem Gp:FOk Tryz.prog 102 xN:=fk [(158,Ao)] ⟨H6,trivial⟩ Tryz.func102 (.two .no (.two .no (.two (.two .no (.loop [.row 3 126 GX,.slot 4 (.num .i64)] .no)) .no)))
theorem DR:FOk Tryz.prog 47 vD:=fk [(102,xN)] ⟨Gp,trivial⟩ Tryz.func47 .no
theorem H7:FOk Tryz.prog 215 Ap:=fk [] trivial Tryz.func215 (.two .no (.two .no (.two (.two .no (.loop [.row 3 4 y4,.slot 4 (.num .i64)] .no)) .no)))
theorem H8:FOk Tryz.prog 216 Aq:=fk [(213,wV)] ⟨CO,trivial⟩ Tryz.func216 (.two .no (.two .no (.two (.two .no (.loop [.row 3 91 y91,.slot 4 (.num .i64)] .no)) .no)))
theorem AP:FOk Tryz.prog 159 rL:=fk [(215,Ap),(216,Aq)] ⟨H7,H8,trivial⟩ Tryz.func159 .no
theorem yu:FOk Tryz.prog 103 qC:=fk [(159,rL)] ⟨AP,trivial⟩ Tryz.func103 (.two .no (.two .no (.two (.two .no (.loop [.row 3 189 l9,.slot 4 (.num .i64)] .no)) .no)))
theorem H9:FOk Tryz.prog 139 Ar:=fk [] trivial Tryz.func139 .no
theorem Gq:FOk Tryz.prog 84 xO:=fk [(139,Ar)] ⟨H9,trivial⟩ Tryz.func84 (.two .no (.two .no (.two (.two .no (.loop [.row 3 161 xF,.slot 4 (.num .i64)] .no)) .no)))
theorem Lc:FOk Tryz.prog 30 CF:=fk [(84,xO)] ⟨Gq,trivial⟩ Tryz.func30 .no
theorem yw:FOk Tryz.prog 160 qD:=fk [(30,CF)] ⟨Lc,trivial⟩ Tryz.func160 .no
end R
namespace R
open Go.RowKit
open D
theorem w6:FOk Tryz.prog 104 pe:=fk [(160,qD)] ⟨yw,trivial⟩ Tryz.func104 (.two .no (.two .no (.two (.two .no (.loop [.row 3 137 Bv,.slot 4 (.num .i64)] .no)) .no)))
theorem BE:FOk Tryz.prog 48 tD:=fk [(103,qC),(104,pe)] ⟨yu,w6,trivial⟩ Tryz.func48 .no
theorem yx:FOk Tryz.prog 105 qF:=fk [] trivial Tryz.func105 .no
theorem w7:FOk Tryz.prog 49 pf:=fk [(105,qF)] ⟨yx,trivial⟩ Tryz.func49 (.two .no (.two .no (.two (.two .no (.loop [.row 3 88 y88,.slot 4 (.num .i64)] .no)) .no)))
theorem Gr:FOk Tryz.prog 13 xP:=fk [(47,vD),(48,tD),(49,pf)] ⟨DR,BE,w7,trivial⟩ Tryz.func13 .no
theorem iL:FOk Tryz.prog 53 gB:=fk [] trivial Tryz.func53 .no
theorem CP:FOk Tryz.prog 161 wW:=fk [(53,gB)] ⟨iL,trivial⟩ Tryz.func161 .no
theorem yy:FOk Tryz.prog 106 qG:=fk [(53,gB),(161,wW)] ⟨iL,CP,trivial⟩ Tryz.func106 (.two .no (.two .no (.two (.two .no (.loop [.slot 14 (.num .i64)] .no)) (.two (.two .no (.loop [.slot 25 (.num .i64)] .no)) .no))))
theorem eE:FOk Tryz.prog 107 cW:=fk [] trivial Tryz.func107 (.two .no (.two .no (.two (.two .no (.loop [.slot 13 (.num .i64)] .no)) .no)))
theorem oF:FOk Tryz.prog 50 kH:=fk [(53,gB),(106,qG),(107,cW)] ⟨iL,yy,eE,trivial⟩ Tryz.func50 (.two .no (.two .no (.two .no (.two (.two .no (.loop [.slot 24 (.num .i64)] .no)) .no))))
theorem xZ:FOk Tryz.prog 326 rM:=fk [(53,gB)] ⟨iL,trivial⟩ Tryz.func326 .no
theorem Ia:FOk Tryz.prog 293 As:=fk [(53,gB),(326,rM)] ⟨iL,xZ,trivial⟩ Tryz.func293 (.two .no (.two (.two .no (.two .no (.two .no (.two .no (.two .no (.join [.slot 37 .boo] .no .no)))))) .no))
theorem mw:FOk Tryz.prog 294 bL:=F5 (f:=bL) (ka (f:=⟨bL.ps,bL.rs,bL.m,none⟩) (enters_of Tryz.func294 (by kernel_rfl) rfl) rfl (fun d=>rfl)) (JI (V:=⟨tt,[],[(5,.raw)],8,[]⟩) Oc trivial mixed Tryz.func294 rfl rfl (enters_of Tryz.func294 (by kernel_rfl) rfl) (bp rfl) .no (fun E bn xs=>by cases bn <;> kernel_rfl))
theorem w8:FOk Tryz.prog 258 sU:=fk [(293,As),(294,bL)] ⟨Ia,mw,trivial⟩ Tryz.func258 (.two .no (.two .no (.two (.two .no (.loop [.slot 3 (.own 274 YP),.slot 13 (.num .i64)] (.two .no (.two .no (.two (.two .no (.two .no (.two (.two .no (.at [.slot 6 (.num .i64)] (.two (.two .no (.at [.slot 19 .boo] .no)) (.two .no (.two (.two .no (.at [.slot 22 .boo] .no)) .no))))) .no))) .no))))) .no))) (tr:=[(302,274,xF)])
theorem Ld:FOk Tryz.prog 323 CG:=fk [(258,sU)] ⟨w8,trivial⟩ Tryz.func323 .no (tr:=[(302,274,xF)])
theorem AQ:FOk Tryz.prog 288 rN:=fk [(323,CG)] ⟨Ld,trivial⟩ Tryz.func288 .no
theorem tT: ∀n,FOk Tryz.prog 289 (lT n)
 | 0=>ka (f:=lT 0) (enters_of Tryz.func289 (by kernel_rfl) rfl) rfl (fun d=>rfl)
 | n+1=>by
  have ih:=tT n
  exact fk [(289,(lT n))] ⟨ih,trivial⟩ Tryz.func289 (.two .no (.two .no (.two (.two .no (.loop [.slot 3 (.num .i64),.slot 11 (.num .i64)] (.two .no (.two .no (.two (.at [.slot 3 (.num .i64)] .no) .no))))) .no))) (tr:=[(302,274,xF)])
end R
namespace R
open Go.RowKit
open D
theorem Rv:FOk Tryz.prog 344 JR:=fk [] trivial Tryz.func344 .no (tr:=[(302,274,xF)])
theorem ya: ∀n,FOk Tryz.prog 324 (oy n)
 | 0=>ka (f:=oy 0) (enters_of Tryz.func324 (by kernel_rfl) rfl) rfl (fun d=>rfl)
 | n+1=>by
  have ih:=ya n
  exact fk [(324,(oy n)),(344,JR)] ⟨ih,Rv,trivial⟩ Tryz.func324 .no (tr:=[(302,274,xF)])
theorem sd: ∀n,FOk Tryz.prog 290 (kI n)
 | 0=>ka (f:=kI 0) (enters_of Tryz.func290 (by kernel_rfl) rfl) rfl (fun d=>rfl)
 | n+1=>by
  have ih:=sd n
  exact fk [(290,(kI n)),(324,(oy gl))] ⟨ih,(ya gl),trivial⟩ Tryz.func290 (.two .no (.two .no (.two .no (.two (.two .no (.loop [.slot 41 (.num .i64),.box 3 [(.num .i64),(.num .i64),(.num .i64),(.num .i64),(.own 274 (.tree 302 274 xF))]] .no)) .no)))) (an:=[(52,t274)]) (tr:=[(302,274,xF)])
theorem qU: ∀n,FOk Tryz.prog 325 (jA n)
 | 0=>ka (f:=jA 0) (enters_of Tryz.func325 (by kernel_rfl) rfl) rfl (fun d=>rfl)
 | n+1=>by
  have ih:=qU n
  exact fk [(325,(jA n))] ⟨ih,trivial⟩ Tryz.func325 (.two (.two .no (.loop [.slot 11 (.num .i64),.box 1 [(.own 161 xF)]] .no)) .no) (tr:=[(302,274,xF)])
theorem DS:FOk Tryz.prog 291 vE:=fk [(325,(jA gl))] ⟨(qU gl),trivial⟩ Tryz.func291 .no (tr:=[(302,274,xF)])
theorem BF:FOk Tryz.prog 256 tE:=fk [(258,sU),(288,rN),(289,(lT gl)),(290,(kI gl)),(291,vE)] ⟨w8,AQ,(tT gl),(sd gl),DS,trivial⟩ Tryz.func256 .no (tr:=[(302,274,xF)])
theorem tj:FOk Tryz.prog 292 mA:=fk [] trivial Tryz.func292 (.two .no (.loop [.slot 12 (.num .i64),.par 3 [3] 3 y3] (.two .no (.two .no (.two (.at [.par 3 [3] 3 y3] .no) .no)))))
theorem nN: ∀n,FOk Tryz.prog 257 (gj n)
 | 0=>ka (f:=gj 0) (enters_of Tryz.func257 (by kernel_rfl) rfl) rfl (fun d=>rfl)
 | n+1=>by
  have ih:=nN n
  exact fk [(257,(gj n)),(292,mA)] ⟨ih,tj,trivial⟩ Tryz.func257 (.two .no (.two (.two .no (.two .no (.two .no (.two .no (.two .no (.two .no (.two .no (.two .no (.two (.two .no (.two .no (.two .no (.two (.two .no (.at [.box 10 [(.num .i64),(.num .i64),.boo]] .no)) (.two (.two .no (.at [.box 10 [(.num .i64),(.num .i64),.boo]] .no)) .no))))) .no))))))))) .no)) (tr:=[(302,274,xF)])
theorem vR:FOk Tryz.prog 217 oz:=fk [(256,tE),(257,(gj gl)),(258,sU)] ⟨BF,(nN gl),w8,trivial⟩ Tryz.func217 (.two .no (.two .no (.two .no (.two .no (.two (.two .no (.loop [.slot 6 (.num .i64),.slot 22 (.num .i64)] (.two .no (.two .no (.two (.at [.slot 6 (.num .i64)] .no) .no))))) .no))))) (tr:=[(302,274,xF)])
theorem qV:FOk Tryz.prog 259 mu:=fk [] trivial Tryz.func259 (.two .no (.two .no (.two .no (.two .no (.two (.two .no (.loop [.slot 10 (.own 3 y3),.slot 11 (.map ⟨3,3,.int,.int⟩),.slot 13 (.num .i64),.box 12 [(.num .i64),(.own 4 y4),(.own 91 y91)]] (.two .no (.two (.two .no (.two (.two .no (.loop [.slot 10 (.own 3 y3),.slot 11 (.map ⟨3,3,.int,.int⟩),.slot 14 (.own 3 y3),.slot 15 (.num .i64)] (.two .no (.join [.slot 10 (.own 3 y3),.slot 11 (.map ⟨3,3,.int,.int⟩),.slot 14 (.own 3 y3)] (.two .no (.two .no (.two .no (.join [.slot 10 (.own 3 y3),.slot 11 (.map ⟨3,3,.int,.int⟩),.slot 18 (.num .i64)] .no .no)))) .no)))) .no)) .no)))) .no)))))
theorem se:FOk Tryz.prog 260 ma:=fk [] trivial Tryz.func260 .no
theorem uC:FOk Tryz.prog 262 nA:=fk [] trivial Tryz.func262 (.two .no (.two .no (.join [.slot 7 (.num .i64)] .no (.two (.two .no (.loop [.slot 7 (.num .i64),.slot 21 (.num .i64)] (.two .no (.two .no (.join [.slot 7 (.num .i64)] .no .no))))) (.two .no (.two (.two .no (.loop [.slot 10 (.num .i64),.slot 39 (.num .i64)] (.two .no (.two .no (.join [.slot 10 (.num .i64)] .no .no))))) .no))))))
theorem w9:FOk Tryz.prog 261 pg:=fk [(262,nA)] ⟨uC,trivial⟩ Tryz.func261 .no
theorem AR:FOk Tryz.prog 218 rO:=fk [(259,mu),(260,ma),(261,pg)] ⟨qV,se,w9,trivial⟩ Tryz.func218 .no
theorem mR:FOk Tryz.prog 345 bO:=F5 (f:=bO) (ka (f:=⟨bO.ps,bO.rs,bO.m,none⟩) (enters_of Tryz.func345 (by kernel_rfl) rfl) rfl (fun d=>rfl)) (JI (V:=⟨tt,[],[(5,.raw)],8,[]⟩) Oc trivial mixed Tryz.func345 rfl rfl (enters_of Tryz.func345 (by kernel_rfl) rfl) (bp rfl) .no (fun E bn xs=>by cases bn <;> kernel_rfl))
theorem vS:FOk Tryz.prog 327 oA:=fk [(345,bO)] ⟨mR,trivial⟩ Tryz.func327 (.two .no (.two .no (.two (.two .no (.loop [.slot 4 .boo,.row 3 4 y4] (.two .no (.two .no (.two .no (.loop [.slot 4 .boo,.slot 16 (.num .i64),.row 3 4 y4] (.two .no (.two .no (.two (.two .no (.two .no (.loop [.slot 4 .boo,.slot 23 (.num .i64),.row 3 4 y4] (.two .no (.two .no (.two (.at [.slot 4 .boo,.row 3 4 y4] .no) .no)))))) .no))))))))) .no)))
theorem jX:FOk Tryz.prog 346 eB:=fk [] trivial Tryz.func346 (.two .no (.two (.two .no (.loop [.slot 8 (.num .i64)] .no)) .no))
end R
namespace R
open Go.RowKit
open D
theorem q8:FOk Tryz.prog 347 kQ:=fk [(107,cW)] ⟨eE,trivial⟩ Tryz.func347 .no
theorem tl:FOk Tryz.prog 328 mB:=fk [(346,eB),(347,kQ)] ⟨jX,q8,trivial⟩ Tryz.func328 (.two .no (.two .no (.two .no (.two (.two .no (.loop [.slot 6 (.own 91 y91),.slot 7 (.own 3 y3),.slot 18 (.num .i64)] (.two .no (.two .no (.join [.slot 6 (.own 91 y91),.slot 7 (.own 3 y3)] (.two .no (.two .no (.two .no (.two (.two .no (.loop [.slot 36 (.num .i64),.box 10 [(.own 3 y3)]] (.two .no (.two .no (.two (.two .no (.join [.slot 12 (.num .i64)] .no .no)) .no))))) (.two .no (.join [.slot 6 (.own 91 y91),.slot 13 (.num .i64),.gone 10] .no .no)))))) .no))))) .no))))
theorem sf:FOk Tryz.prog 295 mb:=fk [(327,oA),(328,mB)] ⟨vS,tl,trivial⟩ Tryz.func295 (.two .no (.two .no (.two (.two .no (.loop [.slot 3 (.own 3 y3),.slot 13 (.num .i64)] (.two .no (.two .no (.join [.slot 3 (.own 3 y3)] .no .no))))) (.two .no (.loop [.slot 3 (.own 3 y3),.slot 6 (.num .i64)] .no)))))
theorem uD:FOk Tryz.prog 354 nB:=fk [] trivial Tryz.func354 .no
theorem uE:FOk Tryz.prog 355 nC:=fk [] trivial Tryz.func355 .no
theorem xa:FOk Tryz.prog 348 ph:=fk [(354,nB),(355,nC)] ⟨uD,uE,trivial⟩ Tryz.func348 .no
theorem nO:FOk Tryz.prog 329 ig:=fk [(348,ph)] ⟨xa,trivial⟩ Tryz.func329 (.two .no (.two .no (.two .no (.two .no (.two .no (.two .no (.two (.loop [.slot 8 (.num .i64),.row 7 3 (.int .i64)] .no) .no))))))) (an:=[(44,.bool)])
theorem Ib:FOk Tryz.prog 296 At:=fk [(329,ig)] ⟨nO,trivial⟩ Tryz.func296 .no
theorem nX:FOk Tryz.prog 298 iP:=fk [] trivial Tryz.func298 (.two .no (.two (.two .no (.loop [.slot 8 (.num .i64)] .no)) .no))
theorem py:FOk Tryz.prog 297 jP:=fk [(298,iP)] ⟨nX,trivial⟩ Tryz.func297 .no
theorem pz:FOk Tryz.prog 299 jQ:=fk [] trivial Tryz.func299 .no
theorem vT:FOk Tryz.prog 301 oB:=fk [(326,rM)] ⟨xZ,trivial⟩ Tryz.func301 .no
theorem pA:FOk Tryz.prog 300 jR:=fk [(301,oB)] ⟨vT,trivial⟩ Tryz.func300 .no
theorem q9:FOk Tryz.prog 263 kR:=fk [(259,mu),(295,mb),(296,At),(297,jP),(299,jQ),(300,jR)] ⟨qV,sf,Ib,py,pz,pA,trivial⟩ Tryz.func263 .no
theorem Od:FOk Tryz.prog 219 Gf:=fk [(263,kR)] ⟨q9,trivial⟩ Tryz.func219 .no
theorem AS:FOk Tryz.prog 162 rP:=fk [(217,oz),(218,rO),(219,Gf)] ⟨vR,AR,Od,trivial⟩ Tryz.func162 .no
theorem gx:FOk Tryz.prog 163 cU:=fk [] trivial Tryz.func163 (.two .no (.two (.two .no (.loop [.slot 8 (.num .i64)] .no)) .no))
end R
namespace R
open Go.RowKit
open D
theorem mS:FOk Tryz.prog 220 gK:=fk [] trivial Tryz.func220 (.two .no (.two .no (.two (.two .no (.loop [.slot 13 (.num .i64)] .no)) .no)))
theorem eU:FOk Tryz.prog 221 cm:=fk [] trivial Tryz.func221 (.two .no (.two .no (.two (.two .no (.loop [.slot 17 (.num .i64)] .no)) .no)))
theorem uF:FOk Tryz.prog 222 nD:=fk [(107,cW)] ⟨eE,trivial⟩ Tryz.func222 .no
theorem pB:FOk Tryz.prog 165 ld:=fk [(220,gK),(221,cm),(222,nD)] ⟨mS,eU,uF,trivial⟩ Tryz.func165 .no
theorem Gs:FOk Tryz.prog 164 xQ:=fk [(165,ld)] ⟨pB,trivial⟩ Tryz.func164 .no
theorem yc:FOk Tryz.prog 166 rQ:=fk [] trivial Tryz.func166 .no
theorem Le:FOk Tryz.prog 108 CH:=fk [(53,gB),(162,rP),(163,cU),(164,xQ),(166,rQ)] ⟨iL,AS,gx,Gs,yc,trivial⟩ Tryz.func108 (.two .no (.two .no (.two (.two .no (.loop [.slot 13 (.num .i64),.box 4 [(.own 189 l9),(.own 137 Bv)]] (.two .no (.two .no (.two (.two .no (.two .no (.two .no (.two .no (.join [.slot 9 (.num .i64),.box 4 [(.own 189 l9),(.own 137 Bv)],.gone 7] .no .no))))) .no))))) .no)))
theorem cM:FOk Tryz.prog 167 bI:=fk [] trivial Tryz.func167 (.two .no (.two .no (.two (.two .no (.loop [.slot 17 (.num .i64)] .no)) .no)))
theorem cy:FOk Tryz.prog 168 bC:=fk [] trivial Tryz.func168 (.two .no (.two .no (.two (.two .no (.loop [.slot 17 (.num .i64)] .no)) .no)))
theorem me:FOk Tryz.prog 264 fM:=fk [] trivial Tryz.func264 (.two .no (.two .no (.two (.two .no (.loop [.slot 13 (.num .i64)] .no)) .no)))
theorem BG:FOk Tryz.prog 223 tF:=fk [(264,fM)] ⟨me,trivial⟩ Tryz.func223 .no
theorem yz:FOk Tryz.prog 169 qH:=fk [(223,tF)] ⟨BG,trivial⟩ Tryz.func169 .no
theorem uG:FOk Tryz.prog 109 nE:=fk [(165,ld),(167,bI),(168,bC),(169,qH)] ⟨pB,cM,cy,yz,trivial⟩ Tryz.func109 .no
theorem uH:FOk Tryz.prog 51 nF:=fk [(108,CH),(109,nE)] ⟨Le,uG,trivial⟩ Tryz.func51 .no
theorem xb:FOk Tryz.prog 52 pj:=fk [(50,kH)] ⟨oF,trivial⟩ Tryz.func52 .no
theorem fG:FOk Tryz.prog 110 cK:=fk [] trivial Tryz.func110 (.two .no (.two (.two .no (.loop [.slot 8 (.num .i64)] .no)) .no))
theorem AT:FOk Tryz.prog 111 rR:=fk [] trivial Tryz.func111 .no
end R
namespace R
open Go.RowKit
open D
theorem vU:FOk Tryz.prog 54 qj:=fk [(110,cK),(111,rR)] ⟨fG,AT,trivial⟩ Tryz.func54 .no
theorem sg:FOk Tryz.prog 112 mc:=DK DM (enters_of Tryz.func112 (by kernel_rfl) rfl)
theorem yA:FOk Tryz.prog 195 qI:=Rs JO (enters_of Tryz.func195 (by kernel_rfl) rfl)
theorem vV:FOk Tryz.prog 131 qk:=fk [(195,qI)] ⟨yA,trivial⟩ Tryz.func131 .no
theorem tU:FOk Tryz.prog 193 oQ:=fk [(131,qk),(161,wW)] ⟨vV,CP,trivial⟩ Tryz.func193 .no
theorem yB:FOk Tryz.prog 194 qJ:=Rt Ru Ob 9 (enters_of Tryz.func194 (by kernel_rfl) rfl)
theorem si:FOk Tryz.prog 130 nG:=fk [(193,oQ),(194,qJ)] ⟨tU,yB,trivial⟩ Tryz.func130 (.two .no (.two .no (.two .no (.two (.two .no (.loop [.slot 3 (.own 9 y9),.slot 15 (.num .i64)] (.two .no (.two .no (.two (.atX [.slot 3 (.own 9 y9)] .no) .no))))) .no))))
theorem Gt:FOk Tryz.prog 132 xR:=fk [] trivial Tryz.func132 (.two .no (.two .no (.two (.two .no (.loop [.slot 3 (.num .i64),.slot 4 (.num .i64)] .no)) .no)))
theorem yC:FOk Tryz.prog 73 qK:=fk [(53,gB),(130,nG),(131,qk),(132,xR)] ⟨iL,si,vV,Gt,trivial⟩ Tryz.func73 .no
theorem pC:FOk Tryz.prog 171 lf:=N8 Oa (by kernel_rfl) (by kernel_rfl) (enters_of Tryz.func171 (by kernel_rfl) rfl)
theorem AU (n a b:Int) (w:World):Calls Tryz.prog 53 #[.int .i64 n,.int .i64 a,.int .i64 b] w fun e w'=>e= .returned (.bool (decide (a<=n/\n<=b)))/\w'=w:=by
 by_cases h:a<=n
 ·go_enter Tryz.func53,Tryz.ntmps53
  go_wp2
  go_ret
  simp[h]
 ·go_enter Tryz.func53,Tryz.ntmps53
  go_wp2
  go_ret
  simp
  try (intro k;omega)
theorem Ic (s:ByteArray) (r:Int×Bool) (w:World) (hr:rz s=some r) (hL:LayW Tryz.prog w):Calls Tryz.prog 172 #[.string s] w fun e w'=>e= .returned (.tuple #[.int .i64 r.1,.bool r.2])/\Below w.heap.size w w':=by
 unfold rz at hr
 by_cases h10:10<s.size
 ·rw[if_pos h10] at hr
  obtain rfl:=ae hr
  go_enter Tryz.func172,Tryz.ntmps172
  go_wp2
  go_ret2
  exact ⟨rfl,Below.refl _ _⟩
 ·rw[if_neg h10] at hr
  have h18:s.size<=18:=by omega
  cases ha:Lib.atoi s.data.toList with
  | none =>
   rw[ha] at hr
   obtain rfl:=ae hr
   obtain ⟨tp,p,hv⟩:=hL.syn
   have hcon:=Any.strconv_Atoi_err_var JP s h18 ha tp p w hv
   go_enter Tryz.func172,Tryz.ntmps172
   go_wp2_with (go_at_call 226;refine hcon.mono ?_;rintro e w' ⟨N,rfl,hN,hh,hb⟩)
   go_ret2
   exact ⟨rfl,hb⟩
  | some n =>
   rw[ha] at hr
   have hB:=Lib.atoi_bound ha (by simpa using h18)
   have hA:=Any.strconv_Atoi { JP with } s n h18 ha w
   have hI:=fun t=>Any.strconv_Itoa JO n (by omega) (by omega) (Lib.bytesWorld w 5 t) (Lib.bytesWorld_var w 5 t hL.tab)
   have hz: ∀t k os,Below w.heap.size w (Go.Sort.grow ((Lib.bytesWorld w 5 t).drewN k) os):=fun t k os=>by
    have h1:=Lib.bytesWorld_below w 5 t
    exact ⟨h1.os,h1.tape,h1.output,by have:=h1.size;simp only[Go.Sort.grow,Array.size_append];exact Nat.le_trans this (Nat.le_add_right _ _),fun b hb=>(Go.Sort.heap_grow_old ((Lib.bytesWorld w 5 t).drewN k) os (aK hb h1.size:b<((Lib.bytesWorld w 5 t).drewN k).heap.size)).trans (h1.block b hb)⟩
   replace hr:(if (⟨(Lib.itoa n).toArray⟩:ByteArray)=s/\ -999999999<=n/\n<=999999999 then some (n,true) else some (0,false))=some r:=hr
   generalize (⟨(Lib.itoa n).toArray⟩:ByteArray)=q at hr hI
   by_cases e1:q=s
   ·subst e1
    by_cases e2: -999999999<=n/\n<=999999999
    ·rw[if_pos ⟨rfl,e2.1,e2.2⟩] at hr
     obtain rfl:=ae hr
     go_enter Tryz.func172,Tryz.ntmps172
     go_wp2_with (first | (go_at_call 226;refine hA.mono ?_;rintro e w' ⟨rfl,t,rfl⟩) | (go_at_call 195;refine (hI _).mono ?_;rintro e w' ⟨rfl,k,os,rfl⟩) | (go_at_call 53;refine (AU _ _ _ _).mono ?_;rintro e w' ⟨rfl,rfl⟩))
     go_ret2
     exact ⟨rfl,hz _ _ _⟩
    ·rw[if_neg fun k=>e2 k.2] at hr
     obtain rfl:=ae hr
     go_enter Tryz.func172,Tryz.ntmps172
     go_wp2_with (first | (go_at_call 226;refine hA.mono ?_;rintro e w' ⟨rfl,t,rfl⟩) | (go_at_call 195;refine (hI _).mono ?_;rintro e w' ⟨rfl,k,os,rfl⟩) | (go_at_call 53;refine (AU _ _ _ _).mono ?_;rintro e w' ⟨rfl,rfl⟩))
     go_ret2
     exact ⟨rfl,hz _ _ _⟩
   ·rw[if_neg fun k=>e1 k.1] at hr
    obtain rfl:=ae hr
    have e2: ¬q.toList=s.toList:=fun k=>e1 (Go.WideShapes.bytes_inj (by rw[<-ByteArray.toList_eq,<-ByteArray.toList_eq];exact k))
    go_enter Tryz.func172,Tryz.ntmps172
    go_wp2_with (first | (go_at_call 226;refine hA.mono ?_;rintro e w' ⟨rfl,t,rfl⟩) | (go_at_call 195;refine (hI _).mono ?_;rintro e w' ⟨rfl,k,os,rfl⟩) | (go_at_call 53;refine (AU _ _ _ _).mono ?_;rintro e w' ⟨rfl,rfl⟩))
    go_ret2
    exact ⟨rfl,hz _ _ _⟩
theorem yd:FOk Tryz.prog 172 rS:=N9 (enters_of Tryz.func172 (by kernel_rfl) rfl) Ic
theorem AW:FOk Tryz.prog 270 rT:=Vy VB (by kernel_rfl) (enters_of Tryz.func270 (by kernel_rfl) rfl)
theorem DT:FOk Tryz.prog 227 vF:=fk [(172,rS),(193,oQ),(270,rT)] ⟨yd,tU,AW,trivial⟩ Tryz.func227 .no
theorem BH:FOk Tryz.prog 173 tG:=fk [(130,nG),(171,lf),(227,vF)] ⟨si,pC,DT,trivial⟩ Tryz.func173 (.two .no (.two .no (.two .no (.two (.two .no (.loop [.slot 16 (.num .i64),.box 4 [(.own 170 (.prod y4 GW))]] .no)) .no))))
theorem yD:FOk Tryz.prog 113 qL:=fk [(73,qK),(171,lf),(172,rS),(173,tG)] ⟨yC,pC,yd,BH,trivial⟩ Tryz.func113 .no
theorem Ie:FOk Tryz.prog 55 Au:=JN (ps:=[.rd y9]) (A:=y91) (E:=73) (t:=y73) (B:=y3) (m:=m_i_ScanLog) (fk [(112,mc),(113,qL)] ⟨sg,yD,trivial⟩ Tryz.func55 (.two .no (.two .no (.two .no (.two .no (.two (.loop [.slot 5 (.own 3 y3),.slot 6 (.own 73 y73),.slot 7 (.num .i64)] .no) .no))))))
theorem xc:FOk Tryz.prog 14 pn:=fk [(50,kH),(51,nF),(52,pj),(53,gB),(54,qj),(55,Au)] ⟨oF,uH,xb,iL,vU,Ie,trivial⟩ Tryz.func14 (.two .no (.two .no (.two .no (.two (.two .no (.loop [.slot 37 (.num .i64)] .no)) .no))))
end R
namespace R
open Go.RowKit
open D
theorem CQ:FOk Tryz.prog 228 wX:=fk [] trivial Tryz.func228 (.two .no (.two .no (.two (.two .no (.loop [.slot 5 (.num .i64)] .no)) .no)))
theorem Lf:FOk Tryz.prog 205 CI:=fk [] trivial Tryz.func205 .no
theorem If:FOk Tryz.prog 229 Av:=fk [(205,CI)] ⟨Lf,trivial⟩ Tryz.func229 (.two .no (.two .no (.two (.two .no (.loop [.slot 5 (.num .i64)] .no)) .no)))
theorem Ig:FOk Tryz.prog 174 Aw:=fk [(228,wX),(229,Av)] ⟨CQ,If,trivial⟩ Tryz.func174 .no
theorem Gu:FOk Tryz.prog 114 xS:=fk [(174,Aw)] ⟨Ig,trivial⟩ Tryz.func114 (.two .no (.two .no (.two (.two .no (.loop [.slot 5 (.num .i64)] .no)) .no)))
theorem DU:FOk Tryz.prog 56 vG:=fk [(114,xS)] ⟨Gu,trivial⟩ Tryz.func56 .no
theorem Ih:FOk Tryz.prog 230 Ax:=fk [] trivial Tryz.func230 (.two .no (.two .no (.two (.two .no (.loop [.slot 5 (.num .i64)] .no)) .no)))
theorem Ii:FOk Tryz.prog 231 Ay:=fk [(228,wX)] ⟨CQ,trivial⟩ Tryz.func231 (.two .no (.two .no (.two (.two .no (.loop [.slot 5 (.num .i64)] .no)) .no)))
theorem AX:FOk Tryz.prog 175 rU:=fk [(230,Ax),(231,Ay)] ⟨Ih,Ii,trivial⟩ Tryz.func175 .no
theorem yE:FOk Tryz.prog 115 qM:=fk [(175,rU)] ⟨AX,trivial⟩ Tryz.func115 (.two .no (.two .no (.two (.two .no (.loop [.slot 5 (.num .i64)] .no)) .no)))
theorem Ij:FOk Tryz.prog 141 Az:=fk [] trivial Tryz.func141 .no
theorem Gv:FOk Tryz.prog 86 xT:=fk [(141,Az)] ⟨Ij,trivial⟩ Tryz.func86 (.two .no (.two .no (.two (.two .no (.loop [.slot 5 (.num .i64)] .no)) .no)))
theorem Lg:FOk Tryz.prog 32 CJ:=fk [(86,xT)] ⟨Gv,trivial⟩ Tryz.func32 .no
theorem yF:FOk Tryz.prog 176 qN:=fk [(32,CJ)] ⟨Lg,trivial⟩ Tryz.func176 .no
theorem xd:FOk Tryz.prog 116 po:=fk [(176,qN)] ⟨yF,trivial⟩ Tryz.func116 (.two .no (.two .no (.two (.two .no (.loop [.slot 5 (.num .i64)] .no)) .no)))
theorem BI:FOk Tryz.prog 57 tH:=fk [(115,qM),(116,po)] ⟨yE,xd,trivial⟩ Tryz.func57 .no
theorem yG:FOk Tryz.prog 117 qO:=fk [] trivial Tryz.func117 .no
end R
namespace R
open Go.RowKit
open D
theorem xe:FOk Tryz.prog 58 pq:=fk [(117,qO)] ⟨yG,trivial⟩ Tryz.func58 (.two .no (.two .no (.two (.two .no (.loop [.slot 5 (.num .i64)] .no)) .no)))
theorem Gw:FOk Tryz.prog 15 xU:=fk [(56,vG),(57,tH),(58,pq)] ⟨DU,BI,xe,trivial⟩ Tryz.func15 .no
theorem Lh:FOk Tryz.prog 180 CK:=fk [] trivial Tryz.func180 .no
theorem Li:FOk Tryz.prog 119 CL:=fk [(180,CK)] ⟨Lh,trivial⟩ Tryz.func119 (.two .no (.two .no (.two (.two .no (.loop [.slot 4 (.num .i64),.box 3 [(.num .i64),(.own 126 GX)]] .no)) .no)))
theorem Ik:FOk Tryz.prog 181 AA:=fk [] trivial Tryz.func181 (.two .no (.two .no (.two (.two .no (.loop [.slot 4 (.num .i64),.box 3 [(.num .i64),(.own 4 y4),(.own 91 y91)]] .no)) .no)))
theorem Il:FOk Tryz.prog 120 AB:=fk [(155,sS),(181,AA)] ⟨w4,Ik,trivial⟩ Tryz.func120 (.two .no (.two .no (.two (.two .no (.loop [.slot 4 (.num .i64),.box 3 [(.own 189 l9),(.own 137 Bv)]] .no)) (.two (.two .no (.loop [.slot 5 (.num .i64),.box 3 [(.own 189 l9),(.own 137 Bv)]] .no)) .no))))
theorem Im:FOk Tryz.prog 61 AC:=fk [(119,CL),(120,AB)] ⟨Li,Il,trivial⟩ Tryz.func61 .no
theorem ye:FOk Tryz.prog 233 rV:=fk [] trivial Tryz.func233 .no
theorem DV:FOk Tryz.prog 191 vH:=fk [(233,rV)] ⟨ye,trivial⟩ Tryz.func191 .no
theorem AY:FOk Tryz.prog 127 rW:=fk [(191,vH)] ⟨DV,trivial⟩ Tryz.func127 (.two .no (.two .no (.two (.two .no (.loop [.slot 12 (.num .i64),.box 3 [(.num .i64),(.own 126 GX)]] .no)) .no)))
theorem xf:FOk Tryz.prog 192 pv:=fk [(233,rV)] ⟨ye,trivial⟩ Tryz.func192 (.two .no (.two .no (.two (.two .no (.loop [.slot 16 (.num .i64),.box 3 [(.num .i64),(.own 4 y4),(.own 91 y91)]] .no)) .no)))
end R
namespace R
open Go.RowKit
open D
theorem yH:FOk Tryz.prog 128 qP:=fk [(166,rQ),(192,pv)] ⟨yc,xf,trivial⟩ Tryz.func128 (.two .no (.two .no (.two (.two .no (.loop [.slot 12 (.num .i64),.box 3 [(.own 189 l9),(.own 137 Bv)]] .no)) (.two (.two .no (.loop [.slot 27 (.num .i64),.box 3 [(.own 189 l9),(.own 137 Bv)]] .no)) .no))))
theorem BJ:FOk Tryz.prog 71 tI:=fk [(127,rW),(128,qP)] ⟨AY,yH,trivial⟩ Tryz.func71 .no
theorem yf:FOk Tryz.prog 182 rX:=fk [] trivial Tryz.func182 (.two .no (.two (.two .no (.loop [.par 0 [] 3 y3,.slot 1 (.num .i64),.slot 5 (.num .i64)] .no)) .no))
theorem DW:FOk Tryz.prog 183 vI:=fk [] trivial Tryz.func183 (.two .no (.two (.two .no (.loop [.par 0 [] 168 GW,.slot 1 (.num .i64),.slot 5 (.num .i64)] .no)) .no))
theorem BK:FOk Tryz.prog 121 tJ:=fk [(182,rX),(183,vI)] ⟨yf,DW,trivial⟩ Tryz.func121 (.two .no (.two (.two .no (.loop [.par 0 [] 126 GX,.slot 1 (.num .i64),.slot 5 (.num .i64)] .no)) .no))
theorem AZ:FOk Tryz.prog 64 rY:=fk [(121,tJ)] ⟨BK,trivial⟩ Tryz.func64 .no
theorem DX:FOk Tryz.prog 184 vJ:=fk [] trivial Tryz.func184 (.two .no (.two (.two .no (.loop [.par 0 [] 4 y4,.slot 1 (.num .i64),.slot 5 (.num .i64)] .no)) .no))
theorem DY:FOk Tryz.prog 185 vK:=fk [(182,rX)] ⟨yf,trivial⟩ Tryz.func185 (.two .no (.two (.two .no (.loop [.par 0 [] 91 y91,.slot 1 (.num .i64),.slot 5 (.num .i64)] .no)) .no))
theorem vW:FOk Tryz.prog 122 oC:=fk [(184,vJ),(185,vK)] ⟨DX,DY,trivial⟩ Tryz.func122 (.two .no (.two (.two .no (.loop [.par 0 [] 189 l9,.slot 1 (.num .i64),.slot 5 (.num .i64)] .no)) .no))
theorem BL:FOk Tryz.prog 87 tK:=fk [] trivial Tryz.func87 (.two .no (.two (.two .no (.loop [.par 0 [] 161 xF,.slot 1 (.num .i64),.slot 5 (.num .i64)] .no)) .no))
theorem uI:FOk Tryz.prog 123 nH:=fk [(87,tK)] ⟨BL,trivial⟩ Tryz.func123 (.two .no (.two (.two .no (.loop [.par 0 [] 137 Bv,.slot 1 (.num .i64),.slot 5 (.num .i64)] .no)) .no))
theorem yI:FOk Tryz.prog 65 qQ:=fk [(122,oC),(123,nH)] ⟨vW,uI,trivial⟩ Tryz.func65 .no
theorem uJ:FOk Tryz.prog 66 nI:=fk [] trivial Tryz.func66 (.two .no (.two (.two .no (.loop [.par 0 [] 88 y88,.slot 1 (.num .i64),.slot 5 (.num .i64)] .no)) .no))
end R
namespace R
open Go.RowKit
open D
theorem BM:FOk Tryz.prog 20 tL:=fk [(64,rY),(65,qQ),(66,nI)] ⟨AZ,yI,uJ,trivial⟩ Tryz.func20 .no
theorem yg:FOk Tryz.prog 186 rZ:=fk [] trivial Tryz.func186 (.two .no (.two (.two .no (.loop [.slot 1 (.num .i64),.slot 5 (.num .i64)] .no)) .no))
theorem DZ:FOk Tryz.prog 187 vL:=fk [] trivial Tryz.func187 (.two .no (.two (.two .no (.loop [.slot 1 (.num .i64),.slot 5 (.num .i64)] .no)) .no))
theorem BN:FOk Tryz.prog 124 tM:=fk [(186,rZ),(187,vL)] ⟨yg,DZ,trivial⟩ Tryz.func124 (.two .no (.two (.two .no (.loop [.slot 1 (.num .i64),.slot 5 (.num .i64)] .no)) .no))
theorem A0:FOk Tryz.prog 67 sa:=fk [(124,tM)] ⟨BN,trivial⟩ Tryz.func67 .no
theorem D0:FOk Tryz.prog 188 vM:=fk [] trivial Tryz.func188 (.two .no (.two (.two .no (.loop [.slot 1 (.num .i64),.slot 5 (.num .i64)] .no)) .no))
theorem D1:FOk Tryz.prog 189 vN:=fk [(186,rZ)] ⟨yg,trivial⟩ Tryz.func189 (.two .no (.two (.two .no (.loop [.slot 1 (.num .i64),.slot 5 (.num .i64)] .no)) .no))
theorem vX:FOk Tryz.prog 125 oD:=fk [(188,vM),(189,vN)] ⟨D0,D1,trivial⟩ Tryz.func125 (.two .no (.two (.two .no (.loop [.slot 1 (.num .i64),.slot 5 (.num .i64)] .no)) .no))
theorem BO:FOk Tryz.prog 190 tN:=fk [] trivial Tryz.func190 (.two .no (.two (.two .no (.loop [.slot 1 (.num .i64),.slot 5 (.num .i64)] .no)) .no))
theorem uK:FOk Tryz.prog 126 nJ:=fk [(190,tN)] ⟨BO,trivial⟩ Tryz.func126 (.two .no (.two (.two .no (.loop [.slot 1 (.num .i64),.slot 5 (.num .i64)] .no)) .no))
theorem yJ:FOk Tryz.prog 68 qR:=fk [(125,oD),(126,nJ)] ⟨vX,uK,trivial⟩ Tryz.func68 .no
theorem uL:FOk Tryz.prog 69 nK:=fk [] trivial Tryz.func69 (.two .no (.two (.two .no (.loop [.slot 1 (.num .i64),.slot 5 (.num .i64)] .no)) .no))
theorem BP:FOk Tryz.prog 21 tO:=fk [(67,sa),(68,qR),(69,nK)] ⟨A0,yJ,uL,trivial⟩ Tryz.func21 .no
end R
namespace R
open Go.RowKit
open D
theorem fH:FOk Tryz.prog 135 cL:=fk [] trivial Tryz.func135 (.two .no (.two (.two .no (.loop [.slot 8 (.num .i64)] .no)) .no))
theorem Io:FOk Tryz.prog 78 AD:=fk [] trivial Tryz.func78 (.two .no (.two (.two .no (.loop [.slot 5 (.num .i64)] .no)) .no))
theorem uM:FOk Tryz.prog 26 nL:=fk [(12,pd),(59,kF),(61,AC),(78,AD),(79,qi)] ⟨w5,lU,Im,Io,vQ,trivial⟩ Tryz.func26 (.two .no (.two .no (.two .no (.two .no (.two (.loop [.slot 9 (.num .i64)] .no) .no)))))
theorem yK:FOk Tryz.prog 136 qS:=fk [] trivial Tryz.func136 .no
theorem BQ:FOk Tryz.prog 80 tP:=fk [(135,cL),(136,qS)] ⟨fH,yK,trivial⟩ Tryz.func80 .no
theorem gE:FOk Tryz.prog 81 c7:=Vv (n:=2) (z:=(⟨.int .i64 0,rfl⟩,⟨.int .i64 0,rfl⟩,⟨.int .i64 0,rfl⟩)) rfl rfl (fok (V:=⟨tt,[(137,⟨[],[],none,some (88,0)⟩)],[(12,.raw),(34,.raw),(43,.raw),(50,.raw),(53,.raw),(60,.str),(66,.raw),(73,.raw),(76,.raw),(80,.raw),(86,.raw),(91,.raw)],95,[]⟩) Oc ⟨Xg (Yy (fn:=Tryz.f137) (tS:=41) (tR:=4) (E:=88) Tryz.func137 (by kernel_rfl) (by kernel_rfl) (by kernel_rfl) (by kernel_rfl) Tryz.underlying41 (TTok.get Oc rfl).ti),trivial⟩ mixed Tryz.func81 rfl rfl (enters_of Tryz.func81 (by kernel_rfl) rfl) rfl (bp rfl) rfl .no (fun d=>by kernel_rfl))
theorem uN:FOk Tryz.prog 27 nM:=fk [(14,pn),(53,gB),(54,qj),(71,tI),(80,tP),(81,c7)] ⟨xc,iL,vU,BJ,BQ,gE,trivial⟩ Tryz.func27 (.two .no (.two .no (.two .no (.two .no (.two (.loop [.slot 9 (.num .i64)] .no) .no)))))
theorem nY:FOk Tryz.prog 8 nW:=fk [(11,xI),(13,xP),(15,xU),(20,tL),(21,tO),(26,nL),(27,nM)] ⟨Gi,Gr,Gw,BM,BP,uM,uN,trivial⟩ Tryz.func8 .no
end R
namespace R
open Go.RowKit
open D
end R
namespace R
open Go.RowKit
open D
end R
namespace R
open Go.RowKit
open D
end R
namespace D
open Go.RowKit
end D
namespace D
open Go.RowKit
end D
namespace D
open Go.RowKit
end D
namespace D
open Go.RowKit
end D
namespace D
open Go.RowKit
end D
namespace D
open Go.RowKit
theorem nZ (x0:(Int×Yq5)×Yq8×(List Yq7)×ByteArray) (x1:Int) (x2:Int) (r:Bool) (hm:cV x0 x1 x2=some r) {I:Hp} {w0:World} (v0_0:Value) (v0_1:Value) (v0_2:Value) (v0_3:Value) (r0_0:(ah 179 (aJ (ah 3 bc) (ah 172 (aJ bc (aJ bc (aJ bc bc)))))).rd I [v0_0] x0.1.2) (r0_1:(ah 184 (aJ bc (aJ (ah 4 nV) (ah 91 (ah 3 bc))))).rd I [v0_1] x0.2.1.1) (r0_2:(ah 187 (aJ bc (aJ (ah 163 (aJ bc (aJ bc (aJ bc bc)))) bc))).rd I [v0_2] x0.2.1.2) (r0_3:(ah 133 (aJ bc (aJ bc bc))).rd I [v0_3] x0.2.2.1) (hL:Lay Tryz.prog I):Con Tryz.prog 8 #[.agg #[.int .i64 x0.1.1,v0_0,v0_1,v0_2,v0_3,.string x0.2.2.2],.int .i64 x1,.int .i64 x2] I w0 [] (fun v=>v= .bool r) (fun _=>[]):=fun w C hs =>
 ((R.nY).con w0 I [.agg #[.int .i64 x0.1.1,v0_0,v0_1,v0_2,v0_3,.string x0.2.2.2],.int .i64 x1,.int .i64 x2] (x0,(x1,(x2,()))) r hL ⟨_,_,rfl,⟨[.int .i64 x0.1.1,v0_0,v0_1,v0_2,v0_3,.string x0.2.2.2],rfl,⟨_,_,rfl,⟨_,_,rfl,rfl,r0_0⟩,⟨_,_,rfl,⟨_,_,rfl,r0_1,r0_2⟩,⟨_,_,rfl,r0_3,rfl⟩⟩⟩⟩,⟨_,_,rfl,⟨[.int .i64 x1],rfl,rfl⟩,⟨_,_,rfl,⟨[.int .i64 x2],rfl,rfl⟩,rfl⟩⟩⟩ hm w C hs).mono fun e w' ⟨v,he,_,hst⟩=>by
  obtain ⟨h1,h2⟩:=R.vh (h1:=fun _=>rfl) (show St I w0 w' (Ch.own R.Ty.bool.rep [v] r::C) from hst)
  exact ⟨v,he,(List.cons.inj h1).1,h2⟩
end D
namespace D
open Go.RowKit
end D
namespace D
open Go.RowKit
end D
namespace D
open Go.RowKit
def I64 (n:Int):Prop:= -9223372036854775808<=n/\n<=9223372036854775807
class Data (α:Type) where
 lim:α->Prop
 sm:α->Prop
instance:Data Int:=⟨I64,fun _=>True⟩
instance:Data Bool:=⟨fun _=>True,fun _=>True⟩
instance:Data ByteArray:=⟨fun s=>s.size<=9223372036854775807,fun s=>s.size<=1048576⟩
instance {α β:Type} [Data α] [Data β] :Data (α×β):=⟨fun x=>Data.lim x.1/\Data.lim x.2,fun x=>Data.sm x.1/\Data.sm x.2⟩
instance {α:Type} [Data α] :Data (List α):=⟨fun xs=>xs.length<=9223372036854775807/\ ∀x,x∈xs->Data.lim x,fun xs=>xs.length<=1048576/\ ∀x,x∈xs->Data.sm x⟩
structure Opens (P:Program) (t:TypeId) {α:Type} [Data α] (R:Rep α):Prop where
 out: ∀ {H:Type} (enc:TypeId×Value->H) (w:World) (fuel:Nat) (cs:List Value) (x:DataW H×List MemPlace),DataW.trod enc P w 0 (fun _=>true) true fuel t cs=some x-> ∃a:α,R.rd (hp w) cs a/\Data.lim a
theorem Oe {P:Program} {t:TypeId} (h:P.underlying t=some (.int .i64)):Opens P t bc:=by
 constructor
 intro H enc w fuel cs x hx
 obtain ⟨n,rfl,-,hw⟩:=DataW.trod_int h hx
 refine ⟨n,rfl,show I64 n from ?_⟩
 simp[Lit.wf,IntKind.min,IntKind.max,IntKind.signed,IntKind.bits] at hw
 unfold I64
 omega
theorem Lj {P:Program} {t:TypeId} (h:P.underlying t=some .bool):Opens P t nV:=by
 constructor
 intro H enc w fuel cs x hx
 obtain ⟨n,rfl,-⟩:=DataW.trod_bool h hx
 exact ⟨n,rfl,trivial⟩
theorem Gx {P:Program} {t:TypeId} (h:P.underlying t=some .string):Opens P t CY:=by
 constructor
 intro H enc w fuel cs x hx
 obtain ⟨n,rfl,-,hm⟩:=DataW.trod_string h hx
 exact ⟨n,rfl,show n.size<=_ by unfold maxLen at hm;omega⟩
theorem gk {P:Program} {t e:TypeId} {α:Type} [Data α] {R:Rep α} {E:TypeId} (h:P.underlying t=some (.slice e)) (hc:P.cellsOf e=R.size) (h0:0<R.size) (he:Opens P e R):Opens P t (ah E R):=by
 constructor
 intro H enc w fuel cs x hx
 rcases Go.Deep.open_slice h hx with ⟨rfl,-⟩ | ⟨a,len,cap,m,n,D,Pl,rfl,-,hl,hm,hmm,-,hel⟩
 ·exact ⟨[],⟨none,0,rfl,by simp,.inl rfl⟩,Nat.zero_le _,fun x hx=>by cases hx⟩
 have hlm:m=cap:=by simpa using hmm
 subst hlm
 rw[hc] at hel
 by_cases hz:len=0
 ·subst hz
  exact ⟨[],⟨some a,m,rfl,by simp,.inl rfl⟩,Nat.zero_le _,fun x hx=>by cases hx⟩
 ·have hone: ∀i,i<len-> ∃c:List Value,∃y:α,c.length=R.size/\(∀j,j<R.size->w.cell? ((a.add (i*R.size)).add j)=c[j]?)/\R.rd (hp w) c y/\Data.lim y:=by
   intro i hi
   obtain ⟨c,h1,h2⟩:=hel i (by omega)
   obtain ⟨-,h3,h4⟩:=World.cells?_some h1
   obtain ⟨y,hy⟩:=he.out enc w _ _ _ h2
   exact ⟨c,y,h3,h4,hy⟩
  obtain ⟨c0,y0,hc0,hr0,-⟩:=hone 0 (by omega)
  have h00:=hr0 0 h0
  have hsome: ∃v,c0[0]? =some v:=⟨_,List.getElem?_eq_getElem (by omega)⟩
  obtain ⟨v,hv⟩:=hsome
  rw[hv] at h00
  have ha:(a.add (0*R.size)).add 0=a:=by simp[Addr.add]
  rw[ha] at h00
  obtain ⟨b,off,spot⟩:=a
  have hb: ∃ccs T fr,w.heap[b]? =some (.cells ccs T fr)/\spot=none:=by
   simp only[World.cell?] at h00
   split at h00
   ·rename_i ccs T fr heq
    cases spot with
    | none=>exact ⟨ccs,T,fr,heq,rfl⟩
    | some s=>simp at h00
   ·simp at h00
  obtain ⟨ccs,T,fr,hh,rfl⟩:=hb
  have hadd: ∀i j,(Addr.add ⟨b,off,none⟩ i).add j=⟨b,off+i+j,none⟩:=by
   intro i j
   by_cases h1:i=0 <;> by_cases h2:j=0 <;> simp[Addr.add,h1,h2,Nat.add_assoc]
  haveI:Inhabited α:=⟨y0⟩
  obtain ⟨X,hX⟩:=Go.Deep.choose_lt (α:=α) (n:=len) (p:=fun i y=> ∃c:List Value,c.length=R.size/\(∀j,j<R.size->ccs.toList[off+i*R.size+j]? =c[j]?)/\R.rd (hp w) c y/\Data.lim y) (fun i hi=>by
   obtain ⟨c,y,h1,h2,h3⟩:=hone i hi
   refine ⟨y,c,h1,fun j hj=>?_,h3⟩
   have:=h2 j hj
   rw[hadd] at this
   simp only[World.cell?,hh] at this
   simpa using this)
  have hlen:((List.range len).map X).length=len:=by simp
  have hel2: ∀i y,((List.range len).map X)[i]? =some y->i<len/\y=X i:=fun i y hy=>by
   have hi:i<len:=by have:=(List.getElem?_eq_some_iff.1 hy).1;omega
   exact ⟨hi,by simpa [hi] using hy.symm⟩
  refine ⟨(List.range len).map X,⟨some ⟨b,off,none⟩,m,by rw[hlen],by rw[hlen];unfold maxLen at hm;unfold lim;omega,.inr ⟨b,off,ccs,T,fr,rfl,hh,fun i y hy=>?_⟩⟩,by rw[hlen];unfold maxLen at hm;omega,fun y hy=>?_⟩
  ·obtain ⟨hi,rfl⟩:=hel2 i y hy
   obtain ⟨c,e1,e2,e3,-⟩:=hX i hi
   exact ⟨c,e1,e2,e3⟩
  ·obtain ⟨i,hi,he⟩:=List.mem_iff_getElem?.1 hy |>.imp fun i hi=>hel2 i y hi
   obtain ⟨-,-,-,-,e4⟩:=hX i hi
   rw[he];exact e4
structure OpensFs (P:Program) (fs:List Field) (o:Nat) {α:Type} [Data α] (R:Rep α):Prop where
 out: ∀ {H:Type} (enc:TypeId×Value->H) (w:World) (fuel:Nat) (cs:List Value),cs.length=o+R.size->
  (∀f∈fs,∃x,DataW.trod enc P w 0 (fun _=>true) true fuel f.type ((cs.drop f.offset).take (P.cellsOf f.type))=some x)-> ∃a:α,R.rd (hp w) (cs.drop o) a/\Data.lim a
theorem gC {P:Program} {f:Field} {o:Nat} {α:Type} [Data α] {R:Rep α} (ho:f.offset=o) (hc:P.cellsOf f.type=R.size) (h:Opens P f.type R):OpensFs P [f] o R:=by
 constructor
 intro H enc w fuel cs hl hx
 obtain ⟨x,hx⟩:=hx f (by simp)
 rw[ho,hc,List.take_of_length_le (by rw[aT];omega)] at hx
 exact h.out enc w _ _ _ hx
theorem cn {P:Program} {f:Field} {fs:List Field} {o:Nat} {α β:Type} [Data α] [Data β] {R:Rep α} {S:Rep β} (ho:f.offset=o) (hc:P.cellsOf f.type=R.size) (h:Opens P f.type R) (hs:OpensFs P fs (o+R.size) S):OpensFs P (f::fs) o (aJ R S):=by
 constructor
 intro H enc w fuel cs hl hx
 have hl':cs.length=o+(R.size+S.size):=hl
 obtain ⟨b,hb,hlb⟩:=hs.out enc w fuel cs (by omega) (fun g hg=>hx g (by simp[hg]))
 obtain ⟨x,hx⟩:=hx f (by simp)
 rw[ho,hc] at hx
 obtain ⟨a,ha,hla⟩:=h.out enc w _ _ _ hx
 refine ⟨(a,b),⟨(cs.drop o).take R.size,cs.drop (o+R.size),?_,ha,hb⟩,hla,hlb⟩
 rw[<-List.drop_drop,List.take_append_drop]
theorem dJ {P:Program} {t:TypeId} {fs:Array Field} {α:Type} [Data α] {R:Rep α} (h:P.underlying t=some (.struct fs)) (hc:P.cellsOf t=R.size) (hf:OpensFs P fs.toList 0 R):Opens P t R:=by
 constructor
 intro H enc w fuel cs x hx
 obtain ⟨xs,n,-,-,hl,hn,hel⟩:=DataW.trod_struct h hx
 have:=hf.out enc w n cs (by omega) (fun f hm=>by
  obtain ⟨i,hi,rfl⟩:=List.getElem_of_mem hm
  have h1:fs[i]? =some fs.toList[i]:=by simp
  exact ⟨_,(hel i _ h1).trans (List.getElem?_eq_getElem (by simp at hi;omega))⟩)
 simpa using this
theorem St.below {w0 w:World} {cs:List Ch} (h:St (hp w0) w0 w cs):Below w0.heap.size w0 w:=by
 obtain ⟨⟨h1,h2,h3,h4⟩,h5,-⟩:=h
 refine ⟨h1,h2,h3,h4,fun b hb=>?_⟩
 have e:w0.heap[b]? =some w0.heap[b]:=Array.getElem?_eq_getElem hb
 rw[e];exact h5 b _ e
end D
namespace D
open Go.RowKit
theorem fa {n:Int} (h1: -9223372036854775808<=n) (h2:n<=9223372036854775807):IntKind.i64.wrap n=n:=by
 simp only[IntKind.wrap,IntKind.bits,IntKind.signed,Bool.true_and]
 split <;> rename_i h <;> simp at h <;> omega
theorem af {i:Nat} (h:i<9223372036854775807):IntKind.i64.wrap ((i:Int)+1)=((i+1:Nat):Int):=by
 rw[fa (by omega) (by omega)];rfl
theorem aD {α:Type} {xs:List α} {i:Nat} (h:i<xs.length):aQ xs (i:Int)=some (xs[i]):=by
 unfold aQ
 rw[if_pos (Int.natCast_nonneg _)]
 simp[h]
theorem bJ {i n:Nat} (h:i<n):decide ((i:Int)<(n:Int))=true:=by simp[h]
theorem bm {n:Nat} :decide ((n:Int)<(n:Int))=false:=by simp
theorem dC (k:Nat) (h:k<=9223372036854775807):k<aX:=by unfold aX;omega
theorem vY {α:Type} {b n:Nat} {z:α} (h:n*b<=140737488355328):mkI b (n:Int) z=some (List.replicate n z):=by
 unfold mkI
 rw[if_pos ⟨Int.natCast_nonneg _,by simpa using h⟩];simp
theorem Gy {R S:Type} {f:S->Option (Out R S)} (inv:Nat->S) (N:Nat) (h: ∀i,i<N->f (inv i)=some (.nxt (inv (i+1)))): ∀(m i k:Nat),i+m=N->ax f (k+m) (inv i)=ax f k (inv N)
 | 0,i,k,e=>by rw[show i=N by omega];rfl
 | m+1,i,k,e=>by
  rw[<-Nat.add_assoc,ax,h i (by omega)]
  exact Gy inv N h m (i+1) k (by omega)
theorem Gz {R S:Type} {f:S->Option (Out R S)} (inv:Nat->S) (N:Nat) {s:S} (h: ∀i,i<N->f (inv i)=some (.nxt (inv (i+1)))) (he:f (inv N)=some (.brk s)) (hN:N<aX):ax f aX (inv 0)=some (.brk s):=by
 have e:aX=(aX - N - 1)+1+N:=by omega
 rw[e,Gy inv N h N 0 _ (by omega),ax,he]
theorem toL {R α:Type} {f:List α×Int->Option (Out R (List α×Int))} {z:α} (xs:List α) (hN:xs.length<=9223372036854775807)
  (hstep: ∀ys i (h:i<xs.length),ys.length=xs.length->f (ys,(i:Int))=some (.nxt (ys.set i xs[i],((i+1:Nat):Int)))) (hend: ∀ys,ys.length=xs.length->f (ys,(xs.length:Int))=some (.brk (ys,(xs.length:Int)))) :
  ax f aX (List.replicate xs.length z,0)=some (.brk (xs,(xs.length:Int))):=by
 have h0:(List.replicate xs.length z,(0:Int))=(fun i:Nat=>(xs.take i++(List.replicate xs.length z).drop i,(i:Int))) 0:=by simp
 rw[h0]
 refine Gz (fun i:Nat=>(xs.take i++(List.replicate xs.length z).drop i,(i:Int))) xs.length (fun i hi=>?_) ?_ (dC _ hN)
 ·have hl:(xs.take i++(List.replicate xs.length z).drop i).length=xs.length:=by
   rw[al,aA,aT,List.length_replicate];omega
  rw[hstep _ i hi hl]
  congr 3
  have ht:(xs.take i).length=i:=by rw[aA];omega
  rw[List.set_append_right _ _ (by omega),ht,Nat.sub_self,List.drop_eq_getElem_cons (by rw[List.length_replicate];exact hi),List.set_cons_zero,List.take_succ_eq_append_getElem hi,ai]
  rfl
 ·have:=hend xs rfl
  rw[List.take_of_length_le (aC _),List.drop_of_length_le (by rw[List.length_replicate];exact aC _),List.append_nil]
  exact this
def GY {α:Type} [Data α] (m:α->Int->Option Int):Prop:= ∀x l,Data.lim x->0<=l->l<=1048576-> ∃r,m x l=some r/\(r<0\/(0<=r/\r<=l/\Data.sm x))
def D2 {α:Type} [Data α] (m:α->Option α):Prop:= ∀x,Data.sm x->m x=some x
def D3 {α:Type} [Data α] [DecidableEq α] (m:α->α->Option Bool):Prop:= ∀x y,Data.sm x->Data.sm y->m x y=some (decide (x=y))
theorem Zy {α:Type} [Data α] {f:Int×Int->Option yZ } (xs:List α)
  (hstep: ∀i (h:i<xs.length) l,0<=l->l<=1048576-> ∃r,f (l,(i:Int))=some (if r<0 then .ret (-1) else .nxt (r,((i+1:Nat):Int)))/\(r<0\/(0<=r/\r<=l/\Data.sm xs[i])))
  (hend: ∀l,f (l,(xs.length:Int))=some (.brk (l,(xs.length:Int)))): ∀(m i k:Nat) (l:Int),i+m=xs.length->m<k->0<=l->l<=1048576->
   ax f k (l,(i:Int))=some (.ret (-1))\/ ∃r,ax f k (l,(i:Int))=some (.brk (r,(xs.length:Int)))/\0<=r/\r<=l/\ ∀j (h:j<xs.length),i<=j->Data.sm xs[j]
 | 0,i,k,l,e,hk,h0,h1=>by
  obtain ⟨k,rfl⟩: ∃q,k=q+1:=⟨k - 1,by omega⟩
  obtain rfl:i=xs.length:=by omega
  exact .inr ⟨l,by rw[ax,hend],h0,Int.le_refl _,fun j hj hi=>by omega⟩
 | m+1,i,k,l,e,hk,h0,h1=>by
  obtain ⟨k,rfl⟩: ∃q,k=q+1:=⟨k - 1,by omega⟩
  obtain ⟨r,e1,e2⟩:=hstep i (by omega) l h0 h1
  rw[ax,e1]
  rcases e2 with e2 | ⟨e2,e3,e4⟩
  ·rw[if_pos e2];exact .inl rfl
  ·rw[if_neg (by omega)]
   rcases Zy xs hstep hend m (i+1) k r (by omega) (by omega) e2 (by omega) with h | ⟨q,g1,g2,g3,g4⟩
   ·exact .inl h
   ·refine .inr ⟨q,g1,g2,by omega,fun j hj hi=>?_⟩
    by_cases hji:j=i
    ·subst hji;exact e4
    ·exact g4 j hj (by omega)
theorem szL {α:Type} [Data α] {f:Int×Int->Option yZ } (xs:List α) {l:Int} (hN:xs.length<=9223372036854775807)
  (hstep: ∀i (h:i<xs.length) l,0<=l->l<=1048576-> ∃r,f (l,(i:Int))=some (if r<0 then .ret (-1) else .nxt (r,((i+1:Nat):Int)))/\(r<0\/(0<=r/\r<=l/\Data.sm xs[i])))
  (hend: ∀l,f (l,(xs.length:Int))=some (.brk (l,(xs.length:Int)))) (h0:0<=l) (h1:l<=1048576) :
  ∃r,(if decide (IntKind.i64.wrap (l - (xs.length:Int))<0) then (some (-1)) else (aP (ax f aX (IntKind.i64.wrap (l - (xs.length:Int)),0)) (fun r=>some r) (fun s4=>some s4.1)))=some r/\(r<0\/(0<=r/\r<=l/\Data.sm xs)):=by
 rw[fa (by omega) (by omega)]
 by_cases h:l - (xs.length:Int)<0
 ·exact ⟨-1,by rw[if_pos (decide_eq_true h)],.inl (by decide)⟩
 ·rw[if_neg (by simpa using h)]
  rcases Zy xs hstep hend xs.length 0 aX (l - xs.length) (by omega) (dC _ hN) (by omega) (by omega) with e | ⟨r,e,g1,g2,g3⟩
  ·exact ⟨-1,by rw[show ((0:Int))=((0:Nat):Int) from rfl,e];rfl,.inl (by decide)⟩
  ·refine ⟨r,by rw[show ((0:Int))=((0:Nat):Int) from rfl,e];rfl,.inr ⟨g1,by omega,by omega,fun x hx=>?_⟩⟩
   obtain ⟨j,hj,rfl⟩:=List.getElem_of_mem hx
   exact g3 j hj (Nat.zero_le _)
theorem szF {α:Type} [Data α] (xs:List α) {l:Int} (hN:xs.length<=9223372036854775807) (hf: ∀x:α,Data.sm x) (h0:0<=l) (h1:l<=1048576) :
  ∃r,(if decide (IntKind.i64.wrap (l - (xs.length:Int))<0) then (some (-1)) else (some (IntKind.i64.wrap (l - (xs.length:Int)))))=some r/\(r<0\/(0<=r/\r<=l/\Data.sm xs)):=by
 rw[fa (by omega) (by omega)]
 by_cases h:l - (xs.length:Int)<0
 ·exact ⟨-1,by rw[if_pos (decide_eq_true h)],.inl (by decide)⟩
 ·exact ⟨_,by rw[if_neg (by simpa using h)],.inr ⟨by omega,by omega,by omega,fun x _=>hf x⟩⟩
theorem YQ {α:Type} [DecidableEq α] {f:Int->Option (Out Bool Int)} (xs ys:List α) (hl:xs.length=ys.length)
  (hstep: ∀i (h:i<xs.length) (h':i<ys.length),f (i:Int)=some (if xs[i] =ys[i] then .nxt ((i+1:Nat):Int) else .ret false)) (hend:f (xs.length:Int)=some (.brk (xs.length:Int))): ∀(m i k:Nat),i+m=xs.length->m<k->
   ax f k (i:Int)=some (if xs.drop i=ys.drop i then .brk (xs.length:Int) else .ret false)
 | 0,i,k,e,hk=>by
  obtain ⟨k,rfl⟩: ∃q,k=q+1:=⟨k - 1,by omega⟩
  obtain rfl:i=xs.length:=by omega
  rw[ax,hend,List.drop_of_length_le (aC _),List.drop_of_length_le (by omega),if_pos rfl]
 | m+1,i,k,e,hk=>by
  obtain ⟨k,rfl⟩: ∃q,k=q+1:=⟨k - 1,by omega⟩
  have hi:i<xs.length:=by omega
  have hi':i<ys.length:=by omega
  have d1:=List.drop_eq_getElem_cons hi
  have d2:=List.drop_eq_getElem_cons hi'
  rw[ax,hstep i hi hi',d1,d2]
  by_cases h:xs[i] =ys[i]
  ·rw[if_pos h]
   simp only
   rw[YQ xs ys hl hstep hend m (i+1) k (by omega) (by omega)]
   simp only[List.cons.injEq,h,true_and]
  ·rw[if_neg h]
   simp only[List.cons.injEq,h,false_and,if_false]
theorem eqL {α:Type} [DecidableEq α] {f:Int->Option (Out Bool Int)} (xs ys:List α) (hN:xs.length<=9223372036854775807)
  (hstep: ∀i (h:i<xs.length) (h':i<ys.length),f (i:Int)=some (if xs[i] =ys[i] then .nxt ((i+1:Nat):Int) else .ret false)) (hend:f (xs.length:Int)=some (.brk (xs.length:Int))) :
  (if (xs.length:Int) !=(ys.length:Int) then (some false) else (aP (ax f aX 0) (fun r=>some r) (fun s4=>some true)))=some (decide (xs=ys)):=by
 by_cases hl:xs.length=ys.length
 ·rw[if_neg (by rw[hl];simp),show ((0:Int))=((0:Nat):Int) from rfl,YQ xs ys hl hstep hend xs.length 0 aX (by omega) (dC _ hN)]
  by_cases h:xs=ys
  ·subst h;simp[aP]
  ·simp[aP,h]
 ·have:xs≠ys:=fun e=>hl (by rw[e])
  rw[if_pos (by simp;omega)];simp[this]
theorem fF {α:Type} {c d:Prop} [Decidable c] [Decidable d] {a b:α} (h:c↔d):(if c then some a else some b)=some (if d then a else b):=by
 by_cases k:c
 ·rw[if_pos k,if_pos (h.1 k)]
 ·rw[if_neg k,if_neg (fun e=>k (h.2 e))]
theorem qm {α:Type} {c d:Prop} [Decidable c] [Decidable d] {a b:α} (h:c↔ ¬d):(if c then some b else some a)=some (if d then a else b):=by
 by_cases k:d
 ·rw[if_neg (fun e=>h.1 e k),if_pos k]
 ·rw[if_pos (h.2 k),if_neg k]
theorem eqB {α:Type} [DecidableEq α] {f:Int->Option (Out Bool Int)} {K:Option Bool} (xs ys:List α) (hN:xs.length<=9223372036854775807) (hl:xs.length=ys.length)
  (hstep: ∀i (h:i<xs.length) (h':i<ys.length),f (i:Int)=some (if xs[i] =ys[i] then .nxt ((i+1:Nat):Int) else .ret false)) (hend:f (xs.length:Int)=some (.brk (xs.length:Int))) :
  aP (ax f aX 0) (fun r=>some r) (fun s4=>K)=(if xs=ys then K else some false):=by
 rw[show ((0:Int))=((0:Nat):Int) from rfl,YQ xs ys hl hstep hend xs.length 0 aX (by omega) (dC _ hN)]
 by_cases h:xs=ys
 ·subst h;simp[aP]
 ·simp[aP,h]
theorem Xn {f:Int->Option (Out Int Int)} (xs ys:List Int)
  (hstep: ∀i (h:i<xs.length) (h':i<ys.length),f (i:Int)=some (if xs[i] < ys[i] then .ret (-1) else if xs[i] > ys[i] then .ret 1 else .nxt ((i+1:Nat):Int))) (hend: ∀i,xs.length<=i\/ys.length<=i->f (i:Int)=some (.brk (i:Int))): ∀(m i k:Nat),i+m=xs.length->m<k->
   (∃r,ax f k (i:Int)=some (.ret r)/\r≠0/\xs≠ys)\/ ∃s,ax f k (i:Int)=some (.brk s)/\(xs.length=ys.length->xs.drop i=ys.drop i)
 | 0,i,k,e,hk=>by
  obtain ⟨k,rfl⟩: ∃q,k=q+1:=⟨k - 1,by omega⟩
  exact .inr ⟨_,by rw[ax,hend i (.inl (by omega))],fun h=>by rw[List.drop_of_length_le (by omega),List.drop_of_length_le (by omega)]⟩
 | m+1,i,k,e,hk=>by
  obtain ⟨k,rfl⟩: ∃q,k=q+1:=⟨k - 1,by omega⟩
  have hi:i<xs.length:=by omega
  by_cases hi':i<ys.length
  ·have hne: ∀h:xs[i] ≠ys[i],xs≠ys:=fun h e=>h (by subst e;rfl)
   rw[ax,hstep i hi hi']
   by_cases h1:xs[i] < ys[i]
   ·rw[if_pos h1];exact .inl ⟨-1,rfl,by decide,hne (by omega)⟩
   ·rw[if_neg h1]
    by_cases h2:xs[i] > ys[i]
    ·rw[if_pos h2];exact .inl ⟨1,rfl,by decide,hne (by omega)⟩
    ·rw[if_neg h2]
     rcases Xn xs ys hstep hend m (i+1) k (by omega) (by omega) with h | ⟨s,g1,g2⟩
     ·exact .inl h
     ·refine .inr ⟨s,g1,fun hl=>?_⟩
      have h3:xs[i] =ys[i]:=by omega
      rw[List.drop_eq_getElem_cons hi,List.drop_eq_getElem_cons hi',g2 hl,h3]
  ·exact .inr ⟨_,by rw[ax,hend i (.inr (by omega))],fun h=>by omega⟩
instance:LawfulBEq ByteArray where
 eq_of_beq {a b} h:=ByteArray.ext (eq_of_beq (show (a.data==b.data)=true from h))
 rfl {a}:=beq_self_eq_true a.data
theorem Zz {α β γ δ:Type} {a b:α×β×γ×δ} :(a.1=b.1/\a.2.1=b.2.1/\a.2.2.1=b.2.2.1/\a.2.2.2=b.2.2.2)↔a=b:=by rw[Prod.ext_iff,Prod.ext_iff,Prod.ext_iff]
theorem dU {α β:Type} (p:α×β):(p.1,p.2)=p:=rfl
theorem aH {α:Type} [Data α] {xs:List α} (h:Data.sm xs):xs.length<=1048576/\ ∀x,x∈xs->Data.sm x:=h
theorem eV {α:Type} [Data α] {xs:List α} (h:Data.lim xs):xs.length<=9223372036854775807/\ ∀x,x∈xs->Data.lim x:=h
end D
set_option synthInstance.maxSize 20000
set_option synthInstance.maxHeartbeats 2000000
namespace D
open Go.RowKit
theorem JS:GY sH:=fun xs l hl h0 h1=>szF xs (eV hl).1 (fun _=>trivial) h0 h1
theorem Of:GY uh:=fun xs l hl h0 h1=>szF xs (eV hl).1 (fun _=>⟨trivial,trivial,trivial,trivial⟩) h0 h1
theorem Og:GY pS:=by
 intro x l hl h0 h1
 unfold pS
 try simp only[dU]
 obtain ⟨r1,e1,k1⟩:=JS x.1 l hl.1 (by omega) (by omega)
 rw[e1];simp only[aa]
 rcases k1 with k1 | ⟨k1,j1,s1⟩
 ·exact ⟨-1,by rw[if_pos (decide_eq_true k1)],.inl (by decide)⟩
 rw[if_neg (by simpa using k1)]
 obtain ⟨r2,e2,k2⟩:=Of x.2 r1 hl.2 (by omega) (by omega)
 rw[e2];simp only[aa]
 rcases k2 with k2 | ⟨k2,j2,s2⟩
 ·exact ⟨-1,by rw[if_pos (decide_eq_true k2)],.inl (by decide)⟩
 rw[if_neg (by simpa using k2)]
 exact ⟨_,rfl,.inr ⟨by omega,by omega,⟨s1,s2⟩⟩⟩
theorem Lk:GY rA:=fun xs l hl h0 h1=>szL (f:=kc xs) xs (eV hl).1 (fun i h l k0 k1=>by
 obtain ⟨r,e,hr⟩:=Og xs[i] l ((eV hl).2 _ (List.getElem_mem h)) k0 k1
 refine ⟨r,?_,hr⟩
 simp only[kc,bJ h,if_true,aD h,aa,dU,e,af (show i<9223372036854775807 by have:=(eV hl).1;omega)]
 exact fF (by simp)) (fun l=>by simp only[kc,bm];rfl) h0 h1
theorem Ip:GY mD:=by
 intro x l hl h0 h1
 unfold mD
 try simp only[dU]
 obtain ⟨r1,e1,k1⟩:=Lk x.2 l hl.2 (by omega) (by omega)
 rw[e1];simp only[aa]
 rcases k1 with k1 | ⟨k1,j1,s1⟩
 ·exact ⟨-1,by rw[if_pos (decide_eq_true k1)],.inl (by decide)⟩
 rw[if_neg (by simpa using k1)]
 exact ⟨_,rfl,.inr ⟨by omega,by omega,⟨trivial,s1⟩⟩⟩
theorem Oh:GY ui:=fun xs l hl h0 h1=>szF xs (eV hl).1 (fun _=>trivial) h0 h1
theorem Oi:GY uj:=fun xs l hl h0 h1=>szL (f:=lr xs) xs (eV hl).1 (fun i h l k0 k1=>by
 obtain ⟨r,e,hr⟩:=JS xs[i] l ((eV hl).2 _ (List.getElem_mem h)) k0 k1
 refine ⟨r,?_,hr⟩
 simp only[lr,bJ h,if_true,aD h,aa,dU,e,af (show i<9223372036854775807 by have:=(eV hl).1;omega)]
 exact fF (by simp)) (fun l=>by simp only[lr,bm];rfl) h0 h1
theorem D4:GY kd:=by
 intro x l hl h0 h1
 unfold kd
 try simp only[dU]
 obtain ⟨r1,e1,k1⟩:=Oh x.2.1 l hl.2.1 (by omega) (by omega)
 rw[e1];simp only[aa]
 rcases k1 with k1 | ⟨k1,j1,s1⟩
 ·exact ⟨-1,by rw[if_pos (decide_eq_true k1)],.inl (by decide)⟩
 rw[if_neg (by simpa using k1)]
 obtain ⟨r2,e2,k2⟩:=Oi x.2.2 r1 hl.2.2 (by omega) (by omega)
 rw[e2];simp only[aa]
 rcases k2 with k2 | ⟨k2,j2,s2⟩
 ·exact ⟨-1,by rw[if_pos (decide_eq_true k2)],.inl (by decide)⟩
 rw[if_neg (by simpa using k2)]
 exact ⟨_,rfl,.inr ⟨by omega,by omega,⟨trivial,s1,s2⟩⟩⟩
theorem BR:GY mn:=fun xs l hl h0 h1=>szL (f:=fQ xs) xs (eV hl).1 (fun i h l k0 k1=>by
 obtain ⟨r,e,hr⟩:=D4 xs[i] l ((eV hl).2 _ (List.getElem_mem h)) k0 k1
 refine ⟨r,?_,hr⟩
 simp only[fQ,bJ h,if_true,aD h,aa,dU,e,af (show i<9223372036854775807 by have:=(eV hl).1;omega)]
 exact fF (by simp)) (fun l=>by simp only[fQ,bm];rfl) h0 h1
theorem Ll:GY rB:=fun xs l hl h0 h1=>szF xs (eV hl).1 (fun _=>⟨trivial,trivial,trivial,trivial⟩) h0 h1
theorem Rw:GY sI:=by
 intro x l hl h0 h1
 unfold sI
 try simp only[dU]
 obtain ⟨r1,e1,k1⟩:=Ll x l hl (by omega) (by omega)
 rw[e1];simp only[aa]
 rcases k1 with k1 | ⟨k1,j1,s1⟩
 ·exact ⟨-1,by rw[if_pos (decide_eq_true k1)],.inl (by decide)⟩
 rw[if_neg (by simpa using k1)]
 exact ⟨_,rfl,.inr ⟨by omega,by omega,s1⟩⟩
theorem BS:GY je:=by
 intro x l hl h0 h1
 unfold je
 try simp only[dU]
 obtain ⟨r1,e1,k1⟩:=Rw x.2.1 l hl.2.1 (by omega) (by omega)
 rw[e1];simp only[aa]
 rcases k1 with k1 | ⟨k1,j1,s1⟩
 ·exact ⟨-1,by rw[if_pos (decide_eq_true k1)],.inl (by decide)⟩
 rw[if_neg (by simpa using k1)]
 exact ⟨_,rfl,.inr ⟨by omega,by omega,⟨trivial,s1,trivial⟩⟩⟩
theorem A1:GY kU:=fun xs l hl h0 h1=>szL (f:=ff xs) xs (eV hl).1 (fun i h l k0 k1=>by
 obtain ⟨r,e,hr⟩:=BS xs[i] l ((eV hl).2 _ (List.getElem_mem h)) k0 k1
 refine ⟨r,?_,hr⟩
 simp only[ff,bJ h,if_true,aD h,aa,dU,e,af (show i<9223372036854775807 by have:=(eV hl).1;omega)]
 exact fF (by simp)) (fun l=>by simp only[ff,bm];rfl) h0 h1
theorem GB:GY lu:=by
 intro x l hl h0 h1
 unfold lu
 try simp only[dU]
 obtain ⟨r1,e1,k1⟩:=BR x.1 l hl.1 (by omega) (by omega)
 rw[e1];simp only[aa]
 rcases k1 with k1 | ⟨k1,j1,s1⟩
 ·exact ⟨-1,by rw[if_pos (decide_eq_true k1)],.inl (by decide)⟩
 rw[if_neg (by simpa using k1)]
 obtain ⟨r2,e2,k2⟩:=A1 x.2 r1 hl.2 (by omega) (by omega)
 rw[e2];simp only[aa]
 rcases k2 with k2 | ⟨k2,j2,s2⟩
 ·exact ⟨-1,by rw[if_pos (decide_eq_true k2)],.inl (by decide)⟩
 rw[if_neg (by simpa using k2)]
 exact ⟨_,rfl,.inr ⟨by omega,by omega,⟨s1,s2⟩⟩⟩
theorem A2:GY kV:=fun xs l hl h0 h1=>szF xs (eV hl).1 (fun _=>⟨trivial,trivial,trivial⟩) h0 h1
theorem Lm:GY oe:=by
 intro x l hl h0 h1
 unfold oe
 try simp only[dU]
 obtain ⟨r1,e1,k1⟩:=Ip x.1 l hl.1 (by omega) (by omega)
 rw[e1];simp only[aa]
 rcases k1 with k1 | ⟨k1,j1,s1⟩
 ·exact ⟨-1,by rw[if_pos (decide_eq_true k1)],.inl (by decide)⟩
 rw[if_neg (by simpa using k1)]
 obtain ⟨r2,e2,k2⟩:=GB x.2.1 r1 hl.2.1 (by omega) (by omega)
 rw[e2];simp only[aa]
 rcases k2 with k2 | ⟨k2,j2,s2⟩
 ·exact ⟨-1,by rw[if_pos (decide_eq_true k2)],.inl (by decide)⟩
 rw[if_neg (by simpa using k2)]
 obtain ⟨r3,e3,k3⟩:=A2 x.2.2.1 r2 hl.2.2.1 (by omega) (by omega)
 rw[e3];simp only[aa]
 rcases k3 with k3 | ⟨k3,j3,s3⟩
 ·exact ⟨-1,by rw[if_pos (decide_eq_true k3)],.inl (by decide)⟩
 rw[if_neg (by simpa using k3)]
 rw[fa (by have:x.2.2.2.size<=9223372036854775807:=hl.2.2.2;omega) (by omega)]
 by_cases k4:r3 - (x.2.2.2.size:Int)<0
 ·exact ⟨-1,by rw[if_pos (decide_eq_true k4)],.inl (by decide)⟩
 rw[if_neg (by simpa using k4)]
 have s4:x.2.2.2.size<=1048576:=by omega
 exact ⟨_,rfl,.inr ⟨by omega,by omega,⟨s1,s2,s3,s4⟩⟩⟩
theorem JT:D2 o8:=by
 intro xs hx
 have hn:=(aH hx).1
 unfold o8
 rw[vY (by omega)];simp only[aa]
 rw[toL (f:=mF xs) xs (by omega) (fun ys i h hy=>by simp only[mF,bJ h,if_true,aD h,aD (show i<ys.length by omega),aa,dU,af (show i<9223372036854775807 by omega),Int.toNat_natCast]) (fun ys hy=>by simp only[mF,bm];rfl)]
 rfl
theorem Rx:D2 sK:=by
 intro x hx
 unfold sK
 simp only[dU,aa]
theorem Oj:D2 pU:=by
 intro xs hx
 have hn:=(aH hx).1
 unfold pU
 rw[vY (by omega)];simp only[aa]
 rw[toL (f:=lD xs) xs (by omega) (fun ys i h hy=>by simp only[lD,bJ h,if_true,aD h,aD (show i<ys.length by omega),aa,dU,Rx xs[i] ((aH hx).2 _ (List.getElem_mem h)),af (show i<9223372036854775807 by omega),Int.toNat_natCast]) (fun ys hy=>by simp only[lD,bm];rfl)]
 rfl
theorem Ok:D2 pV:=by
 intro x hx
 unfold pV
 simp only[dU,aa,JT x.1 hx.1,Oj x.2 hx.2]
theorem Ln:D2 oo:=by
 intro xs hx
 have hn:=(aH hx).1
 unfold oo
 rw[vY (by omega)];simp only[aa]
 rw[toL (f:=kh xs) xs (by omega) (fun ys i h hy=>by simp only[kh,bJ h,if_true,aD h,aD (show i<ys.length by omega),aa,dU,Ok xs[i] ((aH hx).2 _ (List.getElem_mem h)),af (show i<9223372036854775807 by omega),Int.toNat_natCast]) (fun ys hy=>by simp only[kh,bm];rfl)]
 rfl
theorem Iq:D2 mG:=by
 intro x hx
 unfold mG
 simp only[dU,aa,Ln x.2 hx.2]
theorem Ol:D2 pW:=by
 intro xs hx
 have hn:=(aH hx).1
 unfold pW
 rw[vY (by omega)];simp only[aa]
 rw[toL (f:=lE xs) xs (by omega) (fun ys i h hy=>by simp only[lE,bJ h,if_true,aD h,aD (show i<ys.length by omega),aa,dU,af (show i<9223372036854775807 by omega),Int.toNat_natCast]) (fun ys hy=>by simp only[lE,bm];rfl)]
 rfl
theorem Om:D2 pX:=by
 intro xs hx
 have hn:=(aH hx).1
 unfold pX
 rw[vY (by omega)];simp only[aa]
 rw[toL (f:=lF xs) xs (by omega) (fun ys i h hy=>by simp only[lF,bJ h,if_true,aD h,aD (show i<ys.length by omega),aa,dU,JT xs[i] ((aH hx).2 _ (List.getElem_mem h)),af (show i<9223372036854775807 by omega),Int.toNat_natCast]) (fun ys hy=>by simp only[lF,bm];rfl)]
 rfl
theorem D5:D2 kj:=by
 intro x hx
 unfold kj
 simp only[dU,aa,Ol x.2.1 hx.2.1,Om x.2.2 hx.2.2]
theorem BT:D2 jh:=by
 intro xs hx
 have hn:=(aH hx).1
 unfold jh
 rw[vY (by omega)];simp only[aa]
 rw[toL (f:=fU xs) xs (by omega) (fun ys i h hy=>by simp only[fU,bJ h,if_true,aD h,aD (show i<ys.length by omega),aa,dU,D5 xs[i] ((aH hx).2 _ (List.getElem_mem h)),af (show i<9223372036854775807 by omega),Int.toNat_natCast]) (fun ys hy=>by simp only[fU,bm];rfl)]
 rfl
theorem On:D2 pY:=by
 intro x hx
 unfold pY
 simp only[dU,aa]
theorem Lo:D2 oq:=by
 intro xs hx
 have hn:=(aH hx).1
 unfold oq
 rw[vY (by omega)];simp only[aa]
 rw[toL (f:=kl xs) xs (by omega) (fun ys i h hy=>by simp only[kl,bJ h,if_true,aD h,aD (show i<ys.length by omega),aa,dU,On xs[i] ((aH hx).2 _ (List.getElem_mem h)),af (show i<9223372036854775807 by omega),Int.toNat_natCast]) (fun ys hy=>by simp only[kl,bm];rfl)]
 rfl
theorem Ry:D2 sL:=by
 intro x hx
 unfold sL
 simp only[dU,aa,Lo x hx]
theorem BU:D2 ji:=by
 intro x hx
 unfold ji
 simp only[dU,aa,Ry x.2.1 hx.2.1]
theorem A3:D2 iB:=by
 intro xs hx
 have hn:=(aH hx).1
 unfold iB
 rw[vY (by omega)];simp only[aa]
 rw[toL (f:=fj xs) xs (by omega) (fun ys i h hy=>by simp only[fj,bJ h,if_true,aD h,aD (show i<ys.length by omega),aa,dU,BU xs[i] ((aH hx).2 _ (List.getElem_mem h)),af (show i<9223372036854775807 by omega),Int.toNat_natCast]) (fun ys hy=>by simp only[fj,bm];rfl)]
 rfl
theorem GC:D2 lG:=by
 intro x hx
 unfold lG
 simp only[dU,aa,BT x.1 hx.1,A3 x.2 hx.2]
theorem BV:D2 jj:=by
 intro x hx
 unfold jj
 simp only[dU,aa]
theorem A4:D2 iC:=by
 intro xs hx
 have hn:=(aH hx).1
 unfold iC
 rw[vY (by omega)];simp only[aa]
 rw[toL (f:=fl xs) xs (by omega) (fun ys i h hy=>by simp only[fl,bJ h,if_true,aD h,aD (show i<ys.length by omega),aa,dU,BV xs[i] ((aH hx).2 _ (List.getElem_mem h)),af (show i<9223372036854775807 by omega),Int.toNat_natCast]) (fun ys hy=>by simp only[fl,bm];rfl)]
 rfl
theorem Lp:D2 gZ:=by
 intro x hx
 unfold gZ
 simp only[dU,aa,Iq x.1 hx.1,GC x.2.1 hx.2.1,A4 x.2.2.1 hx.2.2.1]
theorem JU:D3 sO:=fun xs ys hx hy=>eqL (f:=mH xs ys) xs ys (by have:=(aH hx).1;omega) (fun i h h'=>by
 simp only[mH,bJ h,if_true,aD h,aD h',aa,dU,af (show i<9223372036854775807 by have:=(aH hx).1;omega)]
 first | exact fF (by simp) | exact qm (by simp) | exact fF (by simp[Prod.ext_iff])) (by simp only[mH,bm];rfl)
theorem Rz:D3 sP:=by
 intro x y hx hy
 unfold sP
 try simp only[dU,aa]
 repeat' split
 all_goals simp_all[Prod.ext_iff]
theorem Oo:D3 uq:=fun xs ys hx hy=>eqL (f:=lJ xs ys) xs ys (by have:=(aH hx).1;omega) (fun i h h'=>by
 simp only[lJ,bJ h,if_true,aD h,aD h',aa,dU,Rz xs[i] ys[i] ((aH hx).2 _ (List.getElem_mem h)) ((aH hy).2 _ (List.getElem_mem h')),af (show i<9223372036854775807 by have:=(aH hx).1;omega)]
 first | exact fF (by simp) | exact qm (by simp) | exact fF (by simp[Prod.ext_iff])) (by simp only[lJ,bm];rfl)
theorem Oq:D3 p9:=by
 intro x y hx hy
 unfold p9
 try simp only[dU,aa,JU x.1 y.1 hx.1 hy.1,Oo x.2 y.2 hx.2 hy.2]
 repeat' split
 all_goals simp_all[Prod.ext_iff]
theorem Lq:D3 rC:=fun xs ys hx hy=>eqL (f:=kq xs ys) xs ys (by have:=(aH hx).1;omega) (fun i h h'=>by
 simp only[kq,bJ h,if_true,aD h,aD h',aa,dU,Oq xs[i] ys[i] ((aH hx).2 _ (List.getElem_mem h)) ((aH hy).2 _ (List.getElem_mem h')),af (show i<9223372036854775807 by have:=(aH hx).1;omega)]
 first | exact fF (by simp) | exact qm (by simp) | exact fF (by simp[Prod.ext_iff])) (by simp only[kq,bm];rfl)
theorem Ir:D3 mI:=by
 intro x y hx hy
 unfold mI
 try simp only[dU,aa,Lq x.2 y.2 hx.2 hy.2]
 repeat' split
 all_goals simp_all[Prod.ext_iff]
theorem Ot:D3 ur:=fun xs ys hx hy=>eqL (f:=lK xs ys) xs ys (by have:=(aH hx).1;omega) (fun i h h'=>by
 simp only[lK,bJ h,if_true,aD h,aD h',aa,dU,af (show i<9223372036854775807 by have:=(aH hx).1;omega)]
 first | exact fF (by simp) | exact qm (by simp) | exact fF (by simp[Prod.ext_iff])) (by simp only[lK,bm];rfl)
theorem Ou:D3 uu:=fun xs ys hx hy=>eqL (f:=lL xs ys) xs ys (by have:=(aH hx).1;omega) (fun i h h'=>by
 simp only[lL,bJ h,if_true,aD h,aD h',aa,dU,JU xs[i] ys[i] ((aH hx).2 _ (List.getElem_mem h)) ((aH hy).2 _ (List.getElem_mem h')),af (show i<9223372036854775807 by have:=(aH hx).1;omega)]
 first | exact fF (by simp) | exact qm (by simp) | exact fF (by simp[Prod.ext_iff])) (by simp only[lL,bm];rfl)
theorem D6:D3 kt:=by
 intro x y hx hy
 unfold kt
 try simp only[dU,aa,Ot x.2.1 y.2.1 hx.2.1 hy.2.1,Ou x.2.2 y.2.2 hx.2.2 hy.2.2]
 repeat' split
 all_goals simp_all[Prod.ext_iff]
theorem BW:D3 mq:=fun xs ys hx hy=>eqL (f:=ga xs ys) xs ys (by have:=(aH hx).1;omega) (fun i h h'=>by
 simp only[ga,bJ h,if_true,aD h,aD h',aa,dU,D6 xs[i] ys[i] ((aH hx).2 _ (List.getElem_mem h)) ((aH hy).2 _ (List.getElem_mem h')),af (show i<9223372036854775807 by have:=(aH hx).1;omega)]
 first | exact fF (by simp) | exact qm (by simp) | exact fF (by simp[Prod.ext_iff])) (by simp only[ga,bm];rfl)
theorem Ov:D3 qa:=by
 intro x y hx hy
 unfold qa
 try simp only[dU,aa]
 repeat' split
 all_goals simp_all[Prod.ext_iff]
theorem Lr:D3 rD:=fun xs ys hx hy=>eqL (f:=ku xs ys) xs ys (by have:=(aH hx).1;omega) (fun i h h'=>by
 simp only[ku,bJ h,if_true,aD h,aD h',aa,dU,Ov xs[i] ys[i] ((aH hx).2 _ (List.getElem_mem h)) ((aH hy).2 _ (List.getElem_mem h')),af (show i<9223372036854775807 by have:=(aH hx).1;omega)]
 first | exact fF (by simp) | exact qm (by simp) | exact fF (by simp[Prod.ext_iff])) (by simp only[ku,bm];rfl)
theorem RA:D3 sQ:=by
 intro x y hx hy
 unfold sQ
 try simp only[dU,aa,Lr x y hx hy]
 repeat' split
 all_goals simp_all[Prod.ext_iff]
theorem BX:D3 jm:=by
 intro x y hx hy
 unfold jm
 try simp only[dU,aa,RA x.2.1 y.2.1 hx.2.1 hy.2.1]
 repeat' split
 all_goals simp_all[Prod.ext_iff]
theorem A5:D3 kZ:=fun xs ys hx hy=>eqL (f:=fm xs ys) xs ys (by have:=(aH hx).1;omega) (fun i h h'=>by
 simp only[fm,bJ h,if_true,aD h,aD h',aa,dU,BX xs[i] ys[i] ((aH hx).2 _ (List.getElem_mem h)) ((aH hy).2 _ (List.getElem_mem h')),af (show i<9223372036854775807 by have:=(aH hx).1;omega)]
 first | exact fF (by simp) | exact qm (by simp) | exact fF (by simp[Prod.ext_iff])) (by simp only[fm,bm];rfl)
theorem GD:D3 lM:=by
 intro x y hx hy
 unfold lM
 try simp only[dU,aa,BW x.1 y.1 hx.1 hy.1,A5 x.2 y.2 hx.2 hy.2]
 repeat' split
 all_goals simp_all[Prod.ext_iff]
theorem BY:D3 jn:=by
 intro x y hx hy
 unfold jn
 try simp only[dU,aa]
 repeat' split
 all_goals simp_all[Prod.ext_iff]
theorem A6:D3 k7:=fun xs ys hx hy=>eqL (f:=fo xs ys) xs ys (by have:=(aH hx).1;omega) (fun i h h'=>by
 simp only[fo,bJ h,if_true,aD h,aD h',aa,dU,BY xs[i] ys[i] ((aH hx).2 _ (List.getElem_mem h)) ((aH hy).2 _ (List.getElem_mem h')),af (show i<9223372036854775807 by have:=(aH hx).1;omega)]
 first | exact fF (by simp) | exact qm (by simp) | exact fF (by simp[Prod.ext_iff])) (by simp only[fo,bm];rfl)
theorem CR:D3 ic:=by
 intro x y hx hy
 unfold ic
 try simp only[dU,aa,Ir x.1 y.1 hx.1 hy.1,GD x.2.1 y.2.1 hx.2.1 hy.2.1,A6 x.2.2.1 y.2.2.1 hx.2.2.1 hy.2.2.1]
 repeat' split
 all_goals simp_all[Prod.ext_iff]
end D
namespace D
open Go.RowKit
theorem cT {R S:Type} {f:S->Option (Out R S)} (Inv:Nat->S->Prop) (Q:Out R S->Prop) (N:Nat)
  (h: ∀i s,i<=N->Inv i s->(i<N/\ ∃s',f s=some (.nxt s')/\Inv (i+1) s')\/ ∃o,f s=some o/\(∀s',o≠ .nxt s')/\Q o) {s:S} (h0:Inv 0 s) (hN:N<aX): ∃o,ax f aX s=some o/\Q o:=by
 have key: ∀(k i:Nat) (s:S),i<=N->N<i+k->Inv i s-> ∃o,ax f k s=some o/\Q o:=by
  intro k
  induction k with
  | zero=>intro i s h1 h2;omega
  | succ k ih =>
   intro i s h1 h2 hI
   rcases h i s h1 hI with ⟨hi,s',e,hI'⟩ | ⟨o,e,hn,hq⟩
   ·obtain ⟨o,e',hq⟩:=ih (i+1) s' (by omega) (by omega) hI'
    exact ⟨o,by rw[ax,e];exact e',hq⟩
   ·refine ⟨o,?_,hq⟩
    rw[ax,e]
    cases o with
    | nxt s'=>exact absurd rfl (hn s')
    | brk s'=>rfl
    | ret r=>rfl
 exact key aX 0 s (by omega) (by omega) h0
theorem nP {R S:Type} {f:S->Option (Out R S)} (Inv:Nat->S->Prop) (N:Nat) (h: ∀i s,i<N->Inv i s-> ∃s',f s=some (.nxt s')/\Inv (i+1) s') (he: ∀s,Inv N s->f s=some (.brk s)) {s:S} (h0:Inv 0 s) (hN:N<aX): ∃s',ax f aX s=some (.brk s')/\Inv N s':=by
 obtain ⟨o,e,s',rfl,h⟩:=cT (f:=f) Inv (fun o=> ∃s',o= .brk s'/\Inv N s') N (fun i s hi hI=>by
  by_cases h1:i<N
  ·exact .inl ⟨h1,h i s h1 hI⟩
  ·obtain rfl:i=N:=by omega
   exact .inr ⟨_,he s hI,(fun s' e=>by cases e),s,rfl,hI⟩) h0 hN
 exact ⟨s',e,h⟩
theorem bq {R S:Type} {f:S->Option (Out R S)} (st:Nat->S) (N:Nat) (h: ∀i,i<N->f (st i)=some (.nxt (st (i+1)))) (he:f (st N)=some (.brk (st N))) (hN:N<aX):ax f aX (st 0)=some (.brk (st N)):=Gz st N h he hN
theorem tV {k:Nat} (h:k<=9223372036854775807):k<aX:=dC k h
theorem pD {i:Nat} (h:i<=9223372036854775807):IntKind.i64.wrap ((i:Int) - 1)=(i:Int) - 1:=fa (by omega) (by omega)
theorem aL {α:Type} {b:Nat} {xs ys:List α} (h:(xs.length+ys.length)*b<=140737488355328):cz b xs ys=some (xs++ys):=by unfold cz;rw[if_pos h]
theorem cd {R S T:Type} {x:Option (Out R S)} {r:R} {kr:R->Option T} {k:S->Option T} (h:x=some (.ret r)):aP x kr k=kr r:=by rw[h];rfl
theorem aw {R S T:Type} {x:Option (Out R S)} {s:S} {kr:R->Option T} {k:S->Option T} (h:x=some (.brk s)):aP x kr k=k s:=by rw[h];rfl
def nth {α:Type} [Inhabited α] (xs:List α) (i:Int):α:=xs.getD i.toNat default
section
variable {α:Type} [Inhabited α] {xs ys:List α}
theorem aF {i:Int} (h0:0<=i) (h1:i<xs.length):aQ xs i=some (nth xs i):=by
 unfold aQ nth
 rw[if_pos h0]
 have:i.toNat<xs.length:=by omega
 simp[List.getD_eq_getElem?_getD,this]
theorem bZ {i:Nat} (h:i<xs.length):nth xs (i:Int)=xs[i]:=by simp[nth,List.getD_eq_getElem?_getD,h]
theorem ct {i:Int} (h0:0<=i) (h1:i<xs.length):nth xs i∈xs:=by
 have:i.toNat<xs.length:=by omega
 have e:nth xs i=xs[i.toNat]:=by simp[nth,List.getD_eq_getElem?_getD,this]
 rw[e];exact List.getElem_mem this
theorem ij {i:Int} (h0:0<=i) (h1:i<xs.length):nth (xs++ys) i=nth xs i:=by
 have:i.toNat<xs.length:=by omega
 simp[nth,List.getD_eq_getElem?_getD,List.getElem?_append_left this]
theorem Is {x:α} (h:x∈xs): ∃i:Nat,i<xs.length/\nth xs (i:Int)=x:=by
 obtain ⟨i,hi,rfl⟩:=List.getElem_of_mem h
 exact ⟨i,hi,bZ hi⟩
theorem GE {i:Int} {x:α} (h0:0<=i) (h1:i<xs.length):nth (xs.set i.toNat x) i=x:=by
 have:i.toNat<xs.length:=by omega
 simp[nth,List.getD_eq_getElem?_getD,this]
theorem VD (h:xs.length=ys.length) (k: ∀i:Nat,i<xs.length->nth xs (i:Int)=nth ys (i:Int)):xs=ys:=by
 refine List.ext_getElem h fun i h1 h2=>?_
 have:=k i h1
 rwa [bZ h1,bZ h2] at this
end
section
variable {κ:Type} [DecidableEq κ]
def nbL (l:List κ):Option κ->List κ
 | none=>l
 | some x=>if x∈l then l else l++ [x]
def nbI (l:List κ):Option κ->Int
 | none=> -1
 | some x=>(l.idxOf x:Int)
def nbS (l:List κ) (os:List (Option κ)):List κ:=os.foldl nbL l
def nbR (l:List κ):List (Option κ)->List Int
 | [] =>[]
 | o::os=>nbI l o::nbR (nbL l o) os
theorem vZ (l:List κ) (os:List (Option κ)) (o:Option κ):nbS l (os++ [o])=nbL (nbS l os) o:=by simp[nbS]
theorem sV: ∀(l:List κ) (os:List (Option κ)) (o:Option κ),nbR l (os++ [o])=nbR l os++ [nbI (nbS l os) o]
 | l,[],o=>rfl
 | l,p::os,o=>by
  show nbI l p::nbR (nbL l p) (os++ [o])=nbI l p::nbR (nbL l p) os++ [nbI (nbS (nbL l p) os) o]
  rw[sV (nbL l p) os o];rfl
theorem eJ: ∀(l:List κ) (os:List (Option κ)),(nbR l os).length=os.length
 | l,[] =>rfl
 | l,o::os=>by show (nbR (nbL l o) os).length+1=_;rw[eJ];rfl
theorem Ls (l : List κ) (o : Option κ) : l <+: nbL l o := by
  cases o with
  | none => exact List.prefix_refl l
  | some x => unfold nbL; simp only; split
              · exact List.prefix_refl l
              · exact List.prefix_append l [x]
theorem lh: ∀(l:List κ) (os:List (Option κ)),l <+:nbS l os
 | l,[] =>List.prefix_refl l
 | l,o::os=>(Ls l o).trans (lh (nbL l o) os)
theorem Ow {l : List κ} {o : Option κ} (h : l.Nodup) : (nbL l o).Nodup := by
  cases o with
  | none => exact h
  | some x => unfold nbL; simp only; split
              · exact h
              · rename_i hx; exact List.nodup_append.2 ⟨h, by simp, by rintro a ha b hb rfl; simp at hb; exact hx (hb ▸ ha)⟩
theorem sj: ∀ {l:List κ} {os:List (Option κ)},l.Nodup->(nbS l os).Nodup
 | l,[],h=>h
 | l,o::os,h=>sj (l:=nbL l o) (os:=os) (Ow h)
theorem Ox {l : List κ} {o : Option κ} {x : κ} : x ∈ nbL l o ↔ x ∈ l \/ o = some x := by
  cases o with
  | none => simp [nbL]
  | some y => unfold nbL; simp only; split
              · rename_i h; constructor
                · exact .inl
                · rintro (h' | h')
                  · exact h'
                  · simp at h'; exact h' ▸ h
              · simp; exact or_congr Iff.rfl eq_comm
theorem xg: ∀ {l:List κ} {os:List (Option κ)} {x:κ},x∈nbS l os↔x∈l\/some x∈os
 | l,[],x=>by simp[nbS]
 | l,o::os,x=>by
  show x∈nbS (nbL l o) os↔_
  rw[xg,Ox,List.mem_cons,or_assoc]
  exact or_congr Iff.rfl (or_congr eq_comm Iff.rfl)
theorem my {l:List κ} {x:κ} (h:x∈l):nbL l (some x)=l:=by simp[nbL,h]
theorem lj {l:List κ} {x:κ} (h:x∉l):nbL l (some x)=l++ [x]:=by simp[nbL,h]
theorem pE {l:List κ} {x:κ} (h:x∉l):l.idxOf x=l.length:=List.idxOf_eq_length h
def bfS (nx:κ->List (Option κ)) (first:κ):Nat->List κ
 | 0=>[first]
 | i+1=>match (bfS nx first i)[i]? with
  | some x=>nbS (bfS nx first i) (nx x)
  | none=>bfS nx first i
def bfR (nx:κ->List (Option κ)) (first:κ):Nat->List (List Int)
 | 0=>[]
 | i+1=>bfR nx first i++(match (bfS nx first i)[i]? with
  | some x=>[nbR (bfS nx first i) (nx x)]
  | none=>[])
variable {nx:κ->List (Option κ)} {first:κ}
theorem D7 {i:Nat} (h:i<(bfS nx first i).length):bfS nx first (i+1)=nbS (bfS nx first i) (nx ((bfS nx first i)[i])):=by
 rw[bfS,List.getElem?_eq_getElem h]
theorem v7 {i:Nat} (h:i<(bfS nx first i).length):bfR nx first (i+1)=bfR nx first i++ [nbR (bfS nx first i) (nx ((bfS nx first i)[i]))]:=by
 rw[bfR,List.getElem?_eq_getElem h]
theorem bR (i:Nat):bfS nx first i <+:bfS nx first (i+1):=by
 rw[bfS]
 split
 ·exact lh _ _
 ·exact List.prefix_refl _
theorem xh {i j:Nat} (h:i<=j):bfS nx first i <+:bfS nx first j:=by
 induction h with
 | refl=>exact List.prefix_refl _
 | step _ ih=>exact ih.trans (bR _)
theorem nQ: ∀i,(bfS nx first i).Nodup
 | 0=>by simp[bfS]
 | i+1=>by
  rw[bfS]
  split
  ·exact sj (nQ i)
  ·exact nQ i
theorem kJ {G:κ->Prop} (h0:G first) (h: ∀x,G x-> ∀y,some y∈nx x->G y): ∀i,∀x∈bfS nx first i,G x
 | 0=>by simp[bfS];exact h0
 | i+1=>by
  rw[bfS]
  split
  ·rename_i y hy
   intro x hx
   rcases xg.1 hx with hx | hx
   ·exact kJ h0 h i x hx
   ·exact h y (kJ h0 h i y (List.mem_of_getElem? hy)) x hx
  ·exact kJ h0 h i
theorem GF (i:Nat):(bfS nx first i)[0]? =some first:=by
 obtain ⟨t,ht⟩:=xh (nx:=nx) (first:=first) (Nat.zero_le i)
 rw[<-ht];rfl
theorem jS: ∀ {i:Nat},(∀j,j<i->j<(bfS nx first j).length)->(bfR nx first i).length=i
 | 0,_=>rfl
 | i+1,h=>by rw[v7 (h i (by omega)),al,jS fun j hj=>h j (by omega)];rfl
def bfE (nx:κ->List (Option κ)) (first:κ) (N:Nat):Prop:=N=(bfS nx first N).length/\ ∀i,i<N->i<(bfS nx first i).length
theorem Tf {B:Nat} (hB: ∀i,(bfS nx first i).length<=B): ∃N,N<=B/\bfE nx first N:=by
 have key: ∀m i,i+m=B->(∀j,j<i->j<(bfS nx first j).length)-> ∃N,N<=B/\bfE nx first N:=by
  intro m
  induction m with
  | zero =>
   intro i hi hj
   have h1:=hB i
   have h2:i<=(bfS nx first i).length:=by
    cases i with
    | zero=>omega
    | succ i =>
     have:=hj i (by omega)
     have hp:=(bR (nx:=nx) (first:=first) i).length_le
     omega
   exact ⟨i,by omega,by omega,hj⟩
  | succ m ih =>
   intro i hi hj
   by_cases h:i<(bfS nx first i).length
   ·exact ih (i+1) (by omega) fun j hj'=>by
     by_cases e:j=i
     ·subst e;exact h
     ·exact hj j (by omega)
   ·have h2:i<=(bfS nx first i).length:=by
     cases i with
     | zero=>omega
     | succ i =>
      have:=hj i (by omega)
      have hp:=(bR (nx:=nx) (first:=first) i).length_le
      omega
    exact ⟨i,by omega,by omega,hj⟩
 exact key B 0 (by omega) (by omega)
theorem RB {N M:Nat} (h:bfE nx first N) (k:bfE nx first M):N=M:=by
 rcases Nat.lt_trichotomy N M with e | e | e
 ·have:=k.2 N e;have:=h.1;omega
 ·exact e
 ·have:=h.2 M e;have:=k.1;omega
end
end D
namespace D
open Go.RowKit
section
variable {α:Type} [Inhabited α]
def smk (mk:α->Nat):List α->Nat
 | [] =>0
 | x::xs=>mk x+smk mk xs
def mkd (mk:α->Nat) (m:α->Nat->α):List α->Nat->List α
 | [],_=>[]
 | x::xs,k=>m x k::mkd mk m xs (k+mk x)
theorem D8 (mk:α->Nat): ∀(xs:List α) (x:α),smk mk (xs++ [x])=smk mk xs+mk x
 | [],x=>by simp[smk]
 | y::xs,x=>by simp[smk,D8 mk xs x,Nat.add_assoc]
theorem D9 (mk:α->Nat) (m:α->Nat->α): ∀(xs:List α) (x:α) (k:Nat),mkd mk m (xs++ [x]) k=mkd mk m xs k++ [m x (k+smk mk xs)]
 | [],x,k=>by simp[mkd,smk]
 | y::xs,x,k=>by simp[mkd,smk,D9 mk m xs x,Nat.add_assoc]
theorem bf (mk:α->Nat) (m:α->Nat->α): ∀(xs:List α) (k:Nat),(mkd mk m xs k).length=xs.length
 | [],_=>rfl
 | x::xs,k=>by simp[mkd,bf mk m xs]
theorem Ea (mk:α->Nat) (m:α->Nat->α): ∀(xs:List α) (k i:Nat),(mkd mk m xs k).take i=mkd mk m (xs.take i) k
 | [],_,_=>by simp[mkd]
 | x::xs,k,0=>by simp[mkd]
 | x::xs,k,i+1=>by simp[mkd,Ea mk m xs]
theorem RC {xs:List α} {k:Nat} (h:k<xs.length):xs.take (k+1)=xs.take k++ [nth xs (k:Int)]:=by
 rw[List.take_succ_eq_append_getElem h,bZ h]
theorem Xo (mk:α->Nat) (m:α->Nat->α) (xs:List α) (k:Nat) {i:Nat} (h:i<xs.length):nth (mkd mk m xs k) (i:Int)=m (nth xs (i:Int)) (k+smk mk (xs.take i)):=by
 have h':i<(mkd mk m xs k).length:=by rw[bf];exact h
 have e:=RC h'
 rw[Ea,Ea,RC h,D9] at e
 have:=List.append_cancel_left e
 simpa using this.symm
theorem Eb (mk:α->Nat) {xs:List α} {i:Nat} (h:i<xs.length):smk mk (xs.take (i+1))=smk mk (xs.take i)+mk (nth xs (i:Int)):=by rw[RC h,D8]
theorem Oy (mk:α->Nat): ∀(xs:List α) (i:Nat),smk mk (xs.take i)<=smk mk xs
 | [],_=>by simp
 | x::xs,0=>by simp[smk]
 | x::xs,i+1=>by simp[smk];exact Oy mk xs i
theorem jd (mk:α->Nat) {B:Nat} : ∀(xs:List α),(∀x∈xs,mk x<=B)->smk mk xs<=xs.length*B
 | [],_=>by simp[smk]
 | x::xs,h=>by
  have h1:=jd mk xs fun y hy=>h y (by simp[hy])
  have h2:=h x (by simp)
  simp only[smk,ak,Nat.add_mul,Nat.one_mul];omega
theorem VE {xs ys:List α} {i:Nat} (hi:i<xs.length) (hl:ys.length=i) (x:α):(ys++xs.drop i).set i x=ys++ [x] ++xs.drop (i+1):=by
 rw[List.set_append_right _ _ (by omega),hl,Nat.sub_self,List.drop_eq_getElem_cons hi,List.set_cons_zero,ai];rfl
theorem Ec {R:Type} {f:List α×Int×Int->Option (Out R (List α×Int×Int))} (xs:List α) (mk:α->Nat) (m:α->Nat->α) (hN:xs.length<=9223372036854775807) {k:Nat} (hk:k+smk mk xs<=4611686018427387904)
  (hstep: ∀ys (i k:Nat),i<xs.length->ys.length=xs.length->nth ys (i:Int)=nth xs (i:Int)->k+mk (nth xs (i:Int))<=4611686018427387904->f (ys,(k:Int),(i:Int))=some (.nxt (ys.set i (m (nth xs (i:Int)) k),((k+mk (nth xs (i:Int)):Nat):Int),((i+1:Nat):Int))))
  (hend: ∀ys (k:Nat),ys.length=xs.length->f (ys,(k:Int),(xs.length:Int))=some (.brk (ys,(k:Int),(xs.length:Int)))) :
  ax f aX (xs,(k:Int),0)=some (.brk (mkd mk m xs k,((k+smk mk xs:Nat):Int),(xs.length:Int))):=by
 have hlen: ∀i,i<=xs.length->(mkd mk m (xs.take i) k++xs.drop i).length=xs.length:=fun i hi=>by
  rw[al,bf,aA,aT];omega
 have:=bq (f:=f) (fun i=>(mkd mk m (xs.take i) k++xs.drop i,((k+smk mk (xs.take i):Nat):Int),(i:Int))) xs.length (fun i hi=>by
  have hl:(mkd mk m (xs.take i) k).length=i:=by rw[bf,aA];omega
  have hle:=Oy mk xs (i+1)
  rw[Eb mk hi] at hle
  rw[hstep _ i (k+smk mk (xs.take i)) hi (hlen i (by omega)) ?_ (by omega),VE hi hl,RC hi,D9,D8,Nat.add_assoc]
  have h':i<(mkd mk m (xs.take i) k++xs.drop i).length:=by rw[hlen i (by omega)];exact hi
  rw[bZ h',bZ hi,List.getElem_append_right (by omega)]
  simp[hl]) (by
  have:=hend (mkd mk m (xs.take xs.length) k++xs.drop xs.length) (k+smk mk (xs.take xs.length)) (hlen _ (aC _))
  exact this) (tV hN)
 simpa [mkd,smk] using this
theorem Ed {f:Int×Int->Option yZ } (xs:List α) (mk:α->Nat) (m:α->Nat->α) (hN:xs.length<=9223372036854775807) {k:Nat} (hk:k+smk mk xs<=4611686018427387904)
  (hstep: ∀(i k':Nat),i<xs.length->nth (mkd mk m xs k) (i:Int)=m (nth xs (i:Int)) k'->k'+mk (nth xs (i:Int))<=4611686018427387904->f ((k':Int),(i:Int))=some (.nxt (((k'+mk (nth xs (i:Int)):Nat):Int),((i+1:Nat):Int))))
  (hend: ∀(k':Nat),f ((k':Int),(xs.length:Int))=some (.brk ((k':Int),(xs.length:Int)))) :
  ax f aX ((k:Int),0)=some (.brk (((k+smk mk xs:Nat):Int),(xs.length:Int))):=by
 have:=bq (f:=f) (fun i=>(((k+smk mk (xs.take i):Nat):Int),(i:Int))) xs.length (fun i hi=>by
  have hle:=Oy mk xs (i+1)
  rw[Eb mk hi] at hle
  rw[hstep i (k+smk mk (xs.take i)) hi (Xo mk m xs k hi) (by omega),Eb mk hi,Nat.add_assoc]) (hend _) (tV hN)
 simpa [smk] using this
end
end D
set_option synthInstance.maxSize 20000
set_option synthInstance.maxHeartbeats 2000000
namespace D
open Go.RowKit
theorem kK {α:Type} {xs:List α} {i:Nat} {x:α} (h:i<xs.length):aQ (xs.set i x) (i:Int)=some x:=by
 rw[aD (by rw[List.length_set];exact h)];simp
theorem Lt {n:Nat} :decide ((n:Int)<0)=false:=by simp only[decide_eq_false_iff_not];omega
def eC (x:Int):Nat:=1
def A7 (x:Int) (k:Nat):Int:=((k:Nat):Int)
theorem Oz (xs:List Int) (hx:Data.sm xs):smk eC xs<=1048576*1:=by
 obtain ⟨h1,h2⟩:=aH hx
 have b:=jd eC (B:=1) xs (fun x hx=>by
  simp[eC])
 exact Nat.le_trans b (Nat.mul_le_mul_right _ h1)
theorem OA (xs:List Int) (hx:Data.sm xs) {k:Nat} (hk:k+smk eC xs<=4611686018427387904):l7 xs (k:Int)=some (((k+smk eC xs:Nat):Int),mkd eC A7 xs k):=by
 obtain ⟨hN,hs⟩:=aH hx
 unfold l7
 rw[aw (Ec (f:=kB) xs eC A7 (by omega) hk (fun ys i k hi hl he hk=>by
  have hz0:=hs _ (ct (xs:=xs) (i:=(i:Int)) (by omega) (by omega))
  unfold kB
  have hi':i<ys.length:=by omega
  generalize hz:nth xs (i:Int)=z at *
  have hk':k+(1)<=4611686018427387904:=hk
  simp only
  rw[if_pos (by simp;omega),aF (by omega) (by omega),he]
  simp only[aa,Int.toNat_natCast,kK hi',List.set_set,af (show i<9223372036854775807 by omega),af (show k<9223372036854775807 by omega)]
  have e:k+eC z=k+1:=by unfold eC;omega
  rw[e];rfl) (fun ys k hl=>by
  unfold kB
  simp only
  rw[if_neg (by simp;omega)]))]
theorem OB (xs:List Int) (hx:Data.sm xs) {k:Nat} (hk:k+smk eC xs<=4611686018427387904):l8 (mkd eC A7 xs k) (k:Int)=some ((k+smk eC xs:Nat):Int):=by
 obtain ⟨hN,hs⟩:=aH hx
 unfold l8
 rw[aw (Ed (f:=kD _) xs eC A7 (by omega) hk (fun i k' hi he hk=>by
  have hz0:=hs _ (ct (xs:=xs) (i:=(i:Int)) (by omega) (by omega))
  unfold kD
  generalize hz:nth xs (i:Int)=z at *
  have hk':k'+(1)<=4611686018427387904:=hk
  simp only
  rw[if_pos (by simp[bf];omega),aF (by omega) (by rw[bf];omega),he]
  simp only[A7,aa,bne_self_eq_false,Bool.false_eq_true,if_false,Lt,af (show i<9223372036854775807 by omega),af (show k'<9223372036854775807 by omega)]
  have e:k'+eC z=k'+1:=by unfold eC;omega
  rw[e]) (fun k'=>by
  unfold kD
  simp only
  rw[if_neg (by simp[bf])]))]
def eZ (x:Int×Int×Int×Int):Nat:=1+1+1+1
def xi (x:Int×Int×Int×Int) (k:Nat):Int×Int×Int×Int:=(((k:Nat):Int),((k+1:Nat):Int),((k+1+1:Nat):Int),((k+1+1+1:Nat):Int))
theorem RD (xs:List Yq4) (hx:Data.sm xs):smk eZ xs<=1048576*4:=by
 obtain ⟨h1,h2⟩:=aH hx
 have b:=jd eZ (B:=4) xs (fun x hx=>by
  simp[eZ])
 exact Nat.le_trans b (Nat.mul_le_mul_right _ h1)
theorem RE (xs:List Yq4) (hx:Data.sm xs) {k:Nat} (hk:k+smk eZ xs<=4611686018427387904):mJ xs (k:Int)=some (((k+smk eZ xs:Nat):Int),mkd eZ xi xs k):=by
 obtain ⟨hN,hs⟩:=aH hx
 unfold mJ
 rw[aw (Ec (f:=jq) xs eZ xi (by omega) hk (fun ys i k hi hl he hk=>by
  have hz0:=hs _ (ct (xs:=xs) (i:=(i:Int)) (by omega) (by omega))
  unfold jq
  have hi':i<ys.length:=by omega
  generalize hz:nth xs (i:Int)=z at *
  have hk':k+(1+1+1+1)<=4611686018427387904:=hk
  simp only
  rw[if_pos (by simp;omega),aF (by omega) (by omega),he]
  simp only[aa,Int.toNat_natCast,kK hi',List.set_set,af (show i<9223372036854775807 by omega),af (show k<9223372036854775807 by omega),af (show k+1<9223372036854775807 by omega),af (show k+1+1<9223372036854775807 by omega),af (show k+1+1+1<9223372036854775807 by omega)]
  have e:k+eZ z=k+1+1+1+1:=by unfold eZ;omega
  rw[e];rfl) (fun ys k hl=>by
  unfold jq
  simp only
  rw[if_neg (by simp;omega)]))]
theorem RF (xs:List Yq4) (hx:Data.sm xs) {k:Nat} (hk:k+smk eZ xs<=4611686018427387904):mM (mkd eZ xi xs k) (k:Int)=some ((k+smk eZ xs:Nat):Int):=by
 obtain ⟨hN,hs⟩:=aH hx
 unfold mM
 rw[aw (Ed (f:=jv _) xs eZ xi (by omega) hk (fun i k' hi he hk=>by
  have hz0:=hs _ (ct (xs:=xs) (i:=(i:Int)) (by omega) (by omega))
  unfold jv
  generalize hz:nth xs (i:Int)=z at *
  have hk':k'+(1+1+1+1)<=4611686018427387904:=hk
  simp only
  rw[if_pos (by simp[bf];omega),aF (by omega) (by rw[bf];omega),he]
  simp only[xi,aa,bne_self_eq_false,Bool.false_eq_true,if_false,Lt,af (show i<9223372036854775807 by omega),af (show k'<9223372036854775807 by omega),af (show k'+1<9223372036854775807 by omega),af (show k'+1+1<9223372036854775807 by omega),af (show k'+1+1+1<9223372036854775807 by omega)]
  have e:k'+eZ z=k'+1+1+1+1:=by unfold eZ;omega
  rw[e]) (fun k'=>by
  unfold jv
  simp only
  rw[if_neg (by simp[bf])]))]
def dF (x:(List Int)×Yq1):Nat:=smk eC (x.1)+smk eZ (x.2)
def sW (x:(List Int)×Yq1) (k:Nat):(List Int)×Yq1:=(mkd eC A7 (x.1) (k),mkd eZ xi (x.2) (k+smk eC (x.1)))
theorem OC (xs:List EI) (hx:Data.sm xs):smk dF xs<=1048576*5242880:=by
 obtain ⟨h1,h2⟩:=aH hx
 have b:=jd dF (B:=5242880) xs (fun x hx=>by
  have hs:=h2 x hx
  have q0:=Oz (x.1) hs.1
  have q1:=RD (x.2) hs.2
  unfold dF;omega)
 exact Nat.le_trans b (Nat.mul_le_mul_right _ h1)
theorem OD (xs:List EI) (hx:Data.sm xs) {k:Nat} (hk:k+smk dF xs<=4611686018427387904):lO xs (k:Int)=some (((k+smk dF xs:Nat):Int),mkd dF sW xs k):=by
 obtain ⟨hN,hs⟩:=aH hx
 unfold lO
 rw[aw (Ec (f:=iH) xs dF sW (by omega) hk (fun ys i k hi hl he hk=>by
  have hz0:=hs _ (ct (xs:=xs) (i:=(i:Int)) (by omega) (by omega))
  unfold iH
  have hi':i<ys.length:=by omega
  generalize hz:nth xs (i:Int)=z at *
  have hk':k+(smk eC (z.1)+smk eZ (z.2))<=4611686018427387904:=hk
  have m0:=OA (z.1) hz0.1 (k:=k) (by omega)
  have m1:=RE (z.2) hz0.2 (k:=k+smk eC (z.1)) (by omega)
  simp only
  rw[if_pos (by simp;omega),aF (by omega) (by omega),he]
  simp only[aa,Int.toNat_natCast,kK hi',List.set_set,af (show i<9223372036854775807 by omega),m0,m1]
  have e:k+dF z=k+smk eC (z.1)+smk eZ (z.2):=by unfold dF;omega
  rw[e];rfl) (fun ys k hl=>by
  unfold iH
  simp only
  rw[if_neg (by simp;omega)]))]
theorem OE (xs:List EI) (hx:Data.sm xs) {k:Nat} (hk:k+smk dF xs<=4611686018427387904):lQ (mkd dF sW xs k) (k:Int)=some ((k+smk dF xs:Nat):Int):=by
 obtain ⟨hN,hs⟩:=aH hx
 unfold lQ
 rw[aw (Ed (f:=iJ _) xs dF sW (by omega) hk (fun i k' hi he hk=>by
  have hz0:=hs _ (ct (xs:=xs) (i:=(i:Int)) (by omega) (by omega))
  unfold iJ
  generalize hz:nth xs (i:Int)=z at *
  have hk':k'+(smk eC (z.1)+smk eZ (z.2))<=4611686018427387904:=hk
  have m0:=OB (z.1) hz0.1 (k:=k') (by omega)
  have m1:=RF (z.2) hz0.2 (k:=k'+smk eC (z.1)) (by omega)
  simp only
  rw[if_pos (by simp[bf];omega),aF (by omega) (by rw[bf];omega),he]
  simp only[sW,aa,bne_self_eq_false,Bool.false_eq_true,if_false,Lt,af (show i<9223372036854775807 by omega),m0,m1]
  have e:k'+dF z=k'+smk eC (z.1)+smk eZ (z.2):=by unfold dF;omega
  rw[e]) (fun k'=>by
  unfold iJ
  simp only
  rw[if_neg (by simp[bf])]))]
def dG (x:Bool):Nat:=1
def xj (x:Bool) (k:Nat):Bool:=((Int.tmod ((k:Nat):Int) 3)==0)
theorem RG (xs:List Bool) (hx:Data.sm xs):smk dG xs<=1048576*1:=by
 obtain ⟨h1,h2⟩:=aH hx
 have b:=jd dG (B:=1) xs (fun x hx=>by
  simp[dG])
 exact Nat.le_trans b (Nat.mul_le_mul_right _ h1)
theorem RH (xs:List Bool) (hx:Data.sm xs) {k:Nat} (hk:k+smk dG xs<=4611686018427387904):mK xs (k:Int)=some (((k+smk dG xs:Nat):Int),mkd dG xj xs k):=by
 obtain ⟨hN,hs⟩:=aH hx
 unfold mK
 rw[aw (Ec (f:=jr) xs dG xj (by omega) hk (fun ys i k hi hl he hk=>by
  have hz0:=hs _ (ct (xs:=xs) (i:=(i:Int)) (by omega) (by omega))
  unfold jr
  have hi':i<ys.length:=by omega
  generalize hz:nth xs (i:Int)=z at *
  have hk':k+(1)<=4611686018427387904:=hk
  simp only
  rw[if_pos (by simp;omega),aF (by omega) (by omega),he]
  simp only[aa,Int.toNat_natCast,kK hi',List.set_set,af (show i<9223372036854775807 by omega),af (show k<9223372036854775807 by omega)]
  have e:k+dG z=k+1:=by unfold dG;omega
  rw[e];rfl) (fun ys k hl=>by
  unfold jr
  simp only
  rw[if_neg (by simp;omega)]))]
theorem RI (xs:List Bool) (hx:Data.sm xs) {k:Nat} (hk:k+smk dG xs<=4611686018427387904):mN (mkd dG xj xs k) (k:Int)=some ((k+smk dG xs:Nat):Int):=by
 obtain ⟨hN,hs⟩:=aH hx
 unfold mN
 rw[aw (Ed (f:=jw _) xs dG xj (by omega) hk (fun i k' hi he hk=>by
  have hz0:=hs _ (ct (xs:=xs) (i:=(i:Int)) (by omega) (by omega))
  unfold jw
  generalize hz:nth xs (i:Int)=z at *
  have hk':k'+(1)<=4611686018427387904:=hk
  simp only
  rw[if_pos (by simp[bf];omega),aF (by omega) (by rw[bf];omega),he]
  simp only[xj,aa,bne_self_eq_false,Bool.false_eq_true,if_false,Lt,af (show i<9223372036854775807 by omega),af (show k'<9223372036854775807 by omega)]
  have e:k'+dG z=k'+1:=by unfold dG;omega
  rw[e]) (fun k'=>by
  unfold jw
  simp only
  rw[if_neg (by simp[bf])]))]
def e7 (x:List Int):Nat:=smk eC (x)
def xk (x:List Int) (k:Nat):List Int:=mkd eC A7 x k
theorem RJ (xs:List (List Int)) (hx:Data.sm xs):smk e7 xs<=1048576*1048576:=by
 obtain ⟨h1,h2⟩:=aH hx
 have b:=jd e7 (B:=1048576) xs (fun x hx=>by
  have hs:=h2 x hx
  have q0:=Oz (x) hs
  unfold e7;omega)
 exact Nat.le_trans b (Nat.mul_le_mul_right _ h1)
theorem RK (xs:List (List Int)) (hx:Data.sm xs) {k:Nat} (hk:k+smk e7 xs<=4611686018427387904):mL xs (k:Int)=some (((k+smk e7 xs:Nat):Int),mkd e7 xk xs k):=by
 obtain ⟨hN,hs⟩:=aH hx
 unfold mL
 rw[aw (Ec (f:=jt) xs e7 xk (by omega) hk (fun ys i k hi hl he hk=>by
  have hz0:=hs _ (ct (xs:=xs) (i:=(i:Int)) (by omega) (by omega))
  unfold jt
  have hi':i<ys.length:=by omega
  generalize hz:nth xs (i:Int)=z at *
  have hk':k+(smk eC (z))<=4611686018427387904:=hk
  have m0:=OA (z) hz0 (k:=k) (by omega)
  simp only
  rw[if_pos (by simp;omega),aF (by omega) (by omega),he]
  simp only[aa,Int.toNat_natCast,kK hi',List.set_set,af (show i<9223372036854775807 by omega),m0]
  have e:k+e7 z=k+smk eC (z):=by unfold e7;omega
  rw[e];rfl) (fun ys k hl=>by
  unfold jt
  simp only
  rw[if_neg (by simp;omega)]))]
theorem RL (xs:List (List Int)) (hx:Data.sm xs) {k:Nat} (hk:k+smk e7 xs<=4611686018427387904):mO (mkd e7 xk xs k) (k:Int)=some ((k+smk e7 xs:Nat):Int):=by
 obtain ⟨hN,hs⟩:=aH hx
 unfold mO
 rw[aw (Ed (f:=jx _) xs e7 xk (by omega) hk (fun i k' hi he hk=>by
  have hz0:=hs _ (ct (xs:=xs) (i:=(i:Int)) (by omega) (by omega))
  unfold jx
  generalize hz:nth xs (i:Int)=z at *
  have hk':k'+(smk eC (z))<=4611686018427387904:=hk
  have m0:=OB (z) hz0 (k:=k') (by omega)
  simp only
  rw[if_pos (by simp[bf];omega),aF (by omega) (by rw[bf];omega),he]
  simp only[xk,aa,bne_self_eq_false,Bool.false_eq_true,if_false,Lt,af (show i<9223372036854775807 by omega),m0]
  have e:k'+e7 z=k'+smk eC (z):=by unfold e7;omega
  rw[e]) (fun k'=>by
  unfold jx
  simp only
  rw[if_neg (by simp[bf])]))]
def bu (x:Int×(List Bool)×(List (List Int))):Nat:=1+smk dG (x.2.1)+smk e7 (x.2.2)
def jT (x:Int×(List Bool)×(List (List Int))) (k:Nat):Int×(List Bool)×(List (List Int)):=(((k:Nat):Int),mkd dG xj (x.2.1) (k+1),mkd e7 xk (x.2.2) (k+1+smk dG (x.2.1)))
theorem Ee (xs:List Yq2) (hx:Data.sm xs):smk bu xs<=1048576*1099512676353:=by
 obtain ⟨h1,h2⟩:=aH hx
 have b:=jd bu (B:=1099512676353) xs (fun x hx=>by
  have hs:=h2 x hx
  have q0:=RG (x.2.1) hs.2.1
  have q1:=RJ (x.2.2) hs.2.2
  unfold bu;omega)
 exact Nat.le_trans b (Nat.mul_le_mul_right _ h1)
theorem Ef (xs:List Yq2) (hx:Data.sm xs) {k:Nat} (hk:k+smk bu xs<=4611686018427387904):gI xs (k:Int)=some (((k+smk bu xs:Nat):Int),mkd bu jT xs k):=by
 obtain ⟨hN,hs⟩:=aH hx
 unfold gI
 rw[aw (Ec (f:=eS) xs bu jT (by omega) hk (fun ys i k hi hl he hk=>by
  have hz0:=hs _ (ct (xs:=xs) (i:=(i:Int)) (by omega) (by omega))
  unfold eS
  have hi':i<ys.length:=by omega
  generalize hz:nth xs (i:Int)=z at *
  have hk':k+(1+smk dG (z.2.1)+smk e7 (z.2.2))<=4611686018427387904:=hk
  have m0:=RH (z.2.1) hz0.2.1 (k:=k+1) (by omega)
  have m1:=RK (z.2.2) hz0.2.2 (k:=k+1+smk dG (z.2.1)) (by omega)
  simp only
  rw[if_pos (by simp;omega),aF (by omega) (by omega),he]
  simp only[aa,Int.toNat_natCast,kK hi',List.set_set,af (show i<9223372036854775807 by omega),af (show k<9223372036854775807 by omega),m0,m1]
  have e:k+bu z=k+1+smk dG (z.2.1)+smk e7 (z.2.2):=by unfold bu;omega
  rw[e];rfl) (fun ys k hl=>by
  unfold eS
  simp only
  rw[if_neg (by simp;omega)]))]
theorem Eg (xs:List Yq2) (hx:Data.sm xs) {k:Nat} (hk:k+smk bu xs<=4611686018427387904):gJ (mkd bu jT xs k) (k:Int)=some ((k+smk bu xs:Nat):Int):=by
 obtain ⟨hN,hs⟩:=aH hx
 unfold gJ
 rw[aw (Ed (f:=eT _) xs bu jT (by omega) hk (fun i k' hi he hk=>by
  have hz0:=hs _ (ct (xs:=xs) (i:=(i:Int)) (by omega) (by omega))
  unfold eT
  generalize hz:nth xs (i:Int)=z at *
  have hk':k'+(1+smk dG (z.2.1)+smk e7 (z.2.2))<=4611686018427387904:=hk
  have m0:=RI (z.2.1) hz0.2.1 (k:=k'+1) (by omega)
  have m1:=RL (z.2.2) hz0.2.2 (k:=k'+1+smk dG (z.2.1)) (by omega)
  simp only
  rw[if_pos (by simp[bf];omega),aF (by omega) (by rw[bf];omega),he]
  simp only[jT,aa,bne_self_eq_false,Bool.false_eq_true,if_false,Lt,af (show i<9223372036854775807 by omega),af (show k'<9223372036854775807 by omega),m0,m1]
  have e:k'+bu z=k'+1+smk dG (z.2.1)+smk e7 (z.2.2):=by unfold bu;omega
  rw[e]) (fun k'=>by
  unfold eT
  simp only
  rw[if_neg (by simp[bf])]))]
def cJ (x:Int×Int×Int×Int):Nat:=1+1+1+1
def sX (x:Int×Int×Int×Int) (k:Nat):Int×Int×Int×Int:=(((k:Nat):Int),((k+1:Nat):Int),((k+1+1:Nat):Int),((k+1+1+1:Nat):Int))
theorem OF (xs:List Yq4) (hx:Data.sm xs):smk cJ xs<=1048576*4:=by
 obtain ⟨h1,h2⟩:=aH hx
 have b:=jd cJ (B:=4) xs (fun x hx=>by
  simp[cJ])
 exact Nat.le_trans b (Nat.mul_le_mul_right _ h1)
theorem OG (xs:List Yq4) (hx:Data.sm xs) {k:Nat} (hk:k+smk cJ xs<=4611686018427387904):lP xs (k:Int)=some (((k+smk cJ xs:Nat):Int),mkd cJ sX xs k):=by
 obtain ⟨hN,hs⟩:=aH hx
 unfold lP
 rw[aw (Ec (f:=iI) xs cJ sX (by omega) hk (fun ys i k hi hl he hk=>by
  have hz0:=hs _ (ct (xs:=xs) (i:=(i:Int)) (by omega) (by omega))
  unfold iI
  have hi':i<ys.length:=by omega
  generalize hz:nth xs (i:Int)=z at *
  have hk':k+(1+1+1+1)<=4611686018427387904:=hk
  simp only
  rw[if_pos (by simp;omega),aF (by omega) (by omega),he]
  simp only[aa,Int.toNat_natCast,kK hi',List.set_set,af (show i<9223372036854775807 by omega),af (show k<9223372036854775807 by omega),af (show k+1<9223372036854775807 by omega),af (show k+1+1<9223372036854775807 by omega),af (show k+1+1+1<9223372036854775807 by omega)]
  have e:k+cJ z=k+1+1+1+1:=by unfold cJ;omega
  rw[e];rfl) (fun ys k hl=>by
  unfold iI
  simp only
  rw[if_neg (by simp;omega)]))]
theorem OH (xs:List Yq4) (hx:Data.sm xs) {k:Nat} (hk:k+smk cJ xs<=4611686018427387904):lR (mkd cJ sX xs k) (k:Int)=some ((k+smk cJ xs:Nat):Int):=by
 obtain ⟨hN,hs⟩:=aH hx
 unfold lR
 rw[aw (Ed (f:=iK _) xs cJ sX (by omega) hk (fun i k' hi he hk=>by
  have hz0:=hs _ (ct (xs:=xs) (i:=(i:Int)) (by omega) (by omega))
  unfold iK
  generalize hz:nth xs (i:Int)=z at *
  have hk':k'+(1+1+1+1)<=4611686018427387904:=hk
  simp only
  rw[if_pos (by simp[bf];omega),aF (by omega) (by rw[bf];omega),he]
  simp only[sX,aa,bne_self_eq_false,Bool.false_eq_true,if_false,Lt,af (show i<9223372036854775807 by omega),af (show k'<9223372036854775807 by omega),af (show k'+1<9223372036854775807 by omega),af (show k'+1+1<9223372036854775807 by omega),af (show k'+1+1+1<9223372036854775807 by omega)]
  have e:k'+cJ z=k'+1+1+1+1:=by unfold cJ;omega
  rw[e]) (fun k'=>by
  unfold iK
  simp only
  rw[if_neg (by simp[bf])]))]
def bw (x:Int×(Yq1)×Int):Nat:=1+smk cJ (x.2.1)+1
def iM (x:Int×(Yq1)×Int) (k:Nat):Int×(Yq1)×Int:=(((k:Nat):Int),mkd cJ sX (x.2.1) (k+1),((k+1+smk cJ (x.2.1):Nat):Int))
theorem BZ (xs:List Yq9) (hx:Data.sm xs):smk bw xs<=1048576*4194306:=by
 obtain ⟨h1,h2⟩:=aH hx
 have b:=jd bw (B:=4194306) xs (fun x hx=>by
  have hs:=h2 x hx
  have q0:=OF (x.2.1) hs.2.1
  unfold bw;omega)
 exact Nat.le_trans b (Nat.mul_le_mul_right _ h1)
theorem B0 (xs:List Yq9) (hx:Data.sm xs) {k:Nat} (hk:k+smk bw xs<=4611686018427387904):gb xs (k:Int)=some (((k+smk bw xs:Nat):Int),mkd bw iM xs k):=by
 obtain ⟨hN,hs⟩:=aH hx
 unfold gb
 rw[aw (Ec (f:=dZ) xs bw iM (by omega) hk (fun ys i k hi hl he hk=>by
  have hz0:=hs _ (ct (xs:=xs) (i:=(i:Int)) (by omega) (by omega))
  unfold dZ
  have hi':i<ys.length:=by omega
  generalize hz:nth xs (i:Int)=z at *
  have hk':k+(1+smk cJ (z.2.1)+1)<=4611686018427387904:=hk
  have m0:=OG (z.2.1) hz0.2.1 (k:=k+1) (by omega)
  simp only
  rw[if_pos (by simp;omega),aF (by omega) (by omega),he]
  simp only[aa,Int.toNat_natCast,kK hi',List.set_set,af (show i<9223372036854775807 by omega),af (show k<9223372036854775807 by omega),af (show k+1+smk cJ (z.2.1)<9223372036854775807 by omega),m0]
  have e:k+bw z=k+1+smk cJ (z.2.1)+1:=by unfold bw;omega
  rw[e];rfl) (fun ys k hl=>by
  unfold dZ
  simp only
  rw[if_neg (by simp;omega)]))]
theorem B1 (xs:List Yq9) (hx:Data.sm xs) {k:Nat} (hk:k+smk bw xs<=4611686018427387904):gg (mkd bw iM xs k) (k:Int)=some ((k+smk bw xs:Nat):Int):=by
 obtain ⟨hN,hs⟩:=aH hx
 unfold gg
 rw[aw (Ed (f:=eu _) xs bw iM (by omega) hk (fun i k' hi he hk=>by
  have hz0:=hs _ (ct (xs:=xs) (i:=(i:Int)) (by omega) (by omega))
  unfold eu
  generalize hz:nth xs (i:Int)=z at *
  have hk':k'+(1+smk cJ (z.2.1)+1)<=4611686018427387904:=hk
  have m0:=OH (z.2.1) hz0.2.1 (k:=k'+1) (by omega)
  simp only
  rw[if_pos (by simp[bf];omega),aF (by omega) (by rw[bf];omega),he]
  simp only[iM,aa,bne_self_eq_false,Bool.false_eq_true,if_false,Lt,af (show i<9223372036854775807 by omega),af (show k'<9223372036854775807 by omega),af (show k'+1+smk cJ (z.2.1)<9223372036854775807 by omega),m0]
  have e:k'+bw z=k'+1+smk cJ (z.2.1)+1:=by unfold bw;omega
  rw[e]) (fun k'=>by
  unfold eu
  simp only
  rw[if_neg (by simp[bf])]))]
def bz (x:Int×Int×Int):Nat:=1+1+1
def iN (x:Int×Int×Int) (k:Nat):Int×Int×Int:=(((k:Nat):Int),((k+1:Nat):Int),((k+1+1:Nat):Int))
theorem B2 (xs:List Yq7) (hx:Data.sm xs):smk bz xs<=1048576*3:=by
 obtain ⟨h1,h2⟩:=aH hx
 have b:=jd bz (B:=3) xs (fun x hx=>by
  simp[bz])
 exact Nat.le_trans b (Nat.mul_le_mul_right _ h1)
theorem B3 (xs:List Yq7) (hx:Data.sm xs) {k:Nat} (hk:k+smk bz xs<=4611686018427387904):gf xs (k:Int)=some (((k+smk bz xs:Nat):Int),mkd bz iN xs k):=by
 obtain ⟨hN,hs⟩:=aH hx
 unfold gf
 rw[aw (Ec (f:=ep) xs bz iN (by omega) hk (fun ys i k hi hl he hk=>by
  have hz0:=hs _ (ct (xs:=xs) (i:=(i:Int)) (by omega) (by omega))
  unfold ep
  have hi':i<ys.length:=by omega
  generalize hz:nth xs (i:Int)=z at *
  have hk':k+(1+1+1)<=4611686018427387904:=hk
  simp only
  rw[if_pos (by simp;omega),aF (by omega) (by omega),he]
  simp only[aa,Int.toNat_natCast,kK hi',List.set_set,af (show i<9223372036854775807 by omega),af (show k<9223372036854775807 by omega),af (show k+1<9223372036854775807 by omega),af (show k+1+1<9223372036854775807 by omega)]
  have e:k+bz z=k+1+1+1:=by unfold bz;omega
  rw[e];rfl) (fun ys k hl=>by
  unfold ep
  simp only
  rw[if_neg (by simp;omega)]))]
theorem B4 (xs:List Yq7) (hx:Data.sm xs) {k:Nat} (hk:k+smk bz xs<=4611686018427387904):gh (mkd bz iN xs k) (k:Int)=some ((k+smk bz xs:Nat):Int):=by
 obtain ⟨hN,hs⟩:=aH hx
 unfold gh
 rw[aw (Ed (f:=ez _) xs bz iN (by omega) hk (fun i k' hi he hk=>by
  have hz0:=hs _ (ct (xs:=xs) (i:=(i:Int)) (by omega) (by omega))
  unfold ez
  generalize hz:nth xs (i:Int)=z at *
  have hk':k'+(1+1+1)<=4611686018427387904:=hk
  simp only
  rw[if_pos (by simp[bf];omega),aF (by omega) (by rw[bf];omega),he]
  simp only[iN,aa,bne_self_eq_false,Bool.false_eq_true,if_false,Lt,af (show i<9223372036854775807 by omega),af (show k'<9223372036854775807 by omega),af (show k'+1<9223372036854775807 by omega),af (show k'+1+1<9223372036854775807 by omega)]
  have e:k'+bz z=k'+1+1+1:=by unfold bz;omega
  rw[e]) (fun k'=>by
  unfold ez
  simp only
  rw[if_neg (by simp[bf])]))]
def cv (x:Int×Yq5):Nat:=smk dF (x.2)
def v8 (x:Int×Yq5) (k:Nat):Int×Yq5:=(x.1,mkd dF sW (x.2) (k))
theorem Lu (x:Int×Yq5) (hx:Data.sm x):cv x<=5497558138880:=by
 have q0:=OC (x.2) hx.2
 unfold cv;omega
theorem Lv (x:Int×Yq5) (hx:Data.sm x) {k:Nat} (hk:k+cv x<=4611686018427387904):kC x (k:Int)=some (((k+cv x:Nat):Int),v8 x k):=by
 unfold cv at hk
 have m0:=OD (x.2) hx.2 (k:=k) (by omega)
 unfold kC
 simp only[dU,aa,m0]
 have e:k+cv x=k+smk dF (x.2):=by unfold cv;omega
 rw[e];rfl
theorem Lw (x:Int×Yq5) (hx:Data.sm x) {k:Nat} (hk:k+cv x<=4611686018427387904):kE (v8 x k) (k:Int)=some ((k+cv x:Nat):Int):=by
 unfold cv at hk
 have m0:=OE (x.2) hx.2 (k:=k) (by omega)
 unfold kE v8
 simp only[dU,aa,Bool.false_eq_true,if_false,Lt,m0]
 have e:k+cv x=k+smk dF (x.2):=by unfold cv;omega
 rw[e]
def cq (x:(List Yq2)×Yq3):Nat:=smk bu (x.1)+smk bw (x.2)
def sY (x:(List Yq2)×Yq3) (k:Nat):(List Yq2)×Yq3:=(mkd bu jT (x.1) (k),mkd bw iM (x.2) (k+smk bu (x.1)))
theorem Iu (x:(List Yq2)×Yq3) (hx:Data.sm x):cq x<=1152927002168131584:=by
 have q0:=Ee (x.1) hx.1
 have q1:=BZ (x.2) hx.2
 unfold cq;omega
theorem Iv (x:(List Yq2)×Yq3) (hx:Data.sm x) {k:Nat} (hk:k+cq x<=4611686018427387904):ju x (k:Int)=some (((k+cq x:Nat):Int),sY x k):=by
 unfold cq at hk
 have m0:=Ef (x.1) hx.1 (k:=k) (by omega)
 have m1:=B0 (x.2) hx.2 (k:=k+smk bu (x.1)) (by omega)
 unfold ju
 simp only[dU,aa,m0,m1]
 have e:k+cq x=k+smk bu (x.1)+smk bw (x.2):=by unfold cq;omega
 rw[e];rfl
theorem Iw (x:(List Yq2)×Yq3) (hx:Data.sm x) {k:Nat} (hk:k+cq x<=4611686018427387904):jy (sY x k) (k:Int)=some ((k+cq x:Nat):Int):=by
 unfold cq at hk
 have m0:=Eg (x.1) hx.1 (k:=k) (by omega)
 have m1:=B1 (x.2) hx.2 (k:=k+smk bu (x.1)) (by omega)
 unfold jy sY
 simp only[dU,aa,Bool.false_eq_true,if_false,Lt,m0,m1]
 have e:k+cq x=k+smk bu (x.1)+smk bw (x.2):=by unfold cq;omega
 rw[e]
def jB (x:(Int×Yq5)×Yq8×(List Yq7)×ByteArray):Nat:=cv (x.1)+cq (x.2.1)+smk bz (x.2.2.1)
def sZ (x:(Int×Yq5)×Yq8×(List Yq7)×ByteArray) (k:Nat):(Int×Yq5)×Yq8×(List Yq7)×ByteArray:=(v8 (x.1) (k),sY (x.2.1) (k+cv (x.1)),mkd bz iN (x.2.2.1) (k+cv (x.1)+cq (x.2.1)),x.2.2.2)
theorem GG (x:(Int×Yq5)×Yq8×(List Yq7)×ByteArray) (hx:Data.sm x):jB x<=1152932499729416192:=by
 have q0:=Lu (x.1) hx.1
 have q1:=Iu (x.2.1) hx.2.1
 have q2:=B2 (x.2.2.1) hx.2.2.1
 unfold jB;omega
theorem GH (x:(Int×Yq5)×Yq8×(List Yq7)×ByteArray) (hx:Data.sm x) {k:Nat} (hk:k+jB x<=4611686018427387904):eY x (k:Int)=some (((k+jB x:Nat):Int),sZ x k):=by
 unfold jB at hk
 have m0:=Lv (x.1) hx.1 (k:=k) (by omega)
 have m1:=Iv (x.2.1) hx.2.1 (k:=k+cv (x.1)) (by omega)
 have m2:=B3 (x.2.2.1) hx.2.2.1 (k:=k+cv (x.1)+cq (x.2.1)) (by omega)
 unfold eY
 simp only[dU,aa,m0,m1,m2]
 have e:k+jB x=k+cv (x.1)+cq (x.2.1)+smk bz (x.2.2.1):=by unfold jB;omega
 rw[e];rfl
theorem OI (x:(Int×Yq5)×Yq8×(List Yq7)×ByteArray) (hx:Data.sm x) {k:Nat} (hk:k+jB x<=4611686018427387904):gA (sZ x k) (k:Int)=some ((k+jB x:Nat):Int):=by
 unfold jB at hk
 have m0:=Lw (x.1) hx.1 (k:=k) (by omega)
 have m1:=Iw (x.2.1) hx.2.1 (k:=k+cv (x.1)) (by omega)
 have m2:=B4 (x.2.2.1) hx.2.2.1 (k:=k+cv (x.1)+cq (x.2.1)) (by omega)
 unfold gA sZ
 simp only[dU,aa,Bool.false_eq_true,if_false,Lt,m0,m1,m2]
 have e:k+jB x=k+cv (x.1)+cq (x.2.1)+smk bz (x.2.2.1):=by unfold jB;omega
 rw[e]
end D
namespace D
abbrev Pr:=Int×Int
def ltP (a b:Pr):Prop:=a.1<b.1\/a.1=b.1/\a.2<b.2
instance (a b:Pr):Decidable (ltP a b):=inferInstanceAs (Decidable (_\/_))
end D
namespace D
open Go.RowKit
theorem OJ {α R:Type} {f:Int->Option (Out R Int)} (l:List α) (b:α->Bool) (r:Nat->R) (hN:l.length<=9223372036854775807) (h: ∀i (hi:i<l.length),f (i:Int)=some (if b l[i] then .ret (r i) else .nxt ((i+1:Nat):Int))) (he:f (l.length:Int)=some (.brk (l.length:Int))) :
  (∃(i:Nat) (hi:i<l.length),b l[i] =true/\(∀j (hj:j<i),b (l[j]'(by omega))=false)/\ax f aX 0=some (.ret (r i)))\/((∀x,x∈l->b x=false)/\ax f aX 0=some (.brk (l.length:Int))):=by
 obtain ⟨o,e,hQ⟩:=cT (f:=f) (fun i s=>s=(i:Int)/\ ∀j (hj:j<l.length),j<i->b l[j] =false) (fun o=>(∃(i:Nat) (hi:i<l.length),b l[i] =true/\(∀j (hj:j<i),b (l[j]'(by omega))=false)/\o= .ret (r i))\/((∀x,x∈l->b x=false)/\o= .brk (l.length:Int))) l.length (fun i s hi hI=>by
  obtain ⟨rfl,hI⟩:=hI
  by_cases h1:i<l.length
  ·cases hb:b l[i] with
   | true=>exact .inr ⟨_,by rw[h i h1,hb,if_pos rfl],fun s' hh=>by simp at hh,.inl ⟨i,h1,hb,fun j hj=>hI j (by omega) hj,by simp⟩⟩
   | false=>exact .inl ⟨h1,_,by rw[h i h1,hb,if_neg (by simp)],rfl,fun j hj hji=>by
     by_cases c:j=i
     ·subst c;exact hb
     ·exact hI j hj (by omega)⟩
  ·obtain rfl:i=l.length:=by omega
   exact .inr ⟨_,he,fun s' hh=>by simp at hh,.inr ⟨fun x hx=>by
    obtain ⟨j,hj,rfl⟩:=List.getElem_of_mem hx
    exact hI j hj hj,rfl⟩⟩) (s:=0) ⟨rfl,fun j hj h0=>by omega⟩ (dC _ hN)
 rcases hQ with ⟨i,hi,h1,h2,rfl⟩ | ⟨h1,rfl⟩
 ·exact .inl ⟨i,hi,h1,h2,e⟩
 ·exact .inr ⟨h1,e⟩
section
variable {l m:List Pr} {p:Pr}
end
end D
namespace D
open Go.RowKit
end D
set_option synthInstance.maxSize 20000
set_option synthInstance.maxHeartbeats 2000000
namespace D
open Go.RowKit
end D
set_option synthInstance.maxSize 20000
set_option synthInstance.maxHeartbeats 2000000
namespace D
open Go.RowKit
def mkB (l:List UInt8):ByteArray:=⟨l.toArray⟩
theorem VF (a b:List UInt8):mkB a++mkB b=mkB (a++b):=ByteArray.ext (by simp[mkB])
theorem bP (a:List UInt8):(mkB a).size=a.length:=by simp[mkB,ByteArray.size]
theorem eW (a:List UInt8):(mkB a).data.toList=a:=by simp[mkB]
theorem Eh (a b:List UInt8) (h:a.length+b.length<=9223372036854775807):mg (mkB a) (mkB b)=some (mkB (a++b)):=by
 unfold mg chk
 rw[bP,bP,if_pos h,aa,VF]
theorem ZO: ∀d:Fin 10,IntKind.u8.wrap (IntKind.i64.wrap (48+(d.val:Int)))=48+(d.val:Int):=by decide
theorem ZP {d:Nat} (h:d<10):xz [IntKind.u8.wrap (IntKind.i64.wrap (48+(d:Int)))] =mkB [UInt8.ofNat (48+d)]:=by
 rw[ZO ⟨d,h⟩]
 show ByteArray.empty.push (UInt8.ofNat (48+(d:Int)).toNat)=_
 rw[show (48+(d:Int)).toNat=48+d by omega];rfl
theorem ZQ (m:Int):(if decide ((Int.tmod m 10)<0) then (some (IntKind.i64.wrap (-(Int.tmod m 10)))) else (some (Int.tmod m 10)):Option Int)=some ((m.natAbs % 10:Nat):Int):=by
 by_cases h:m<0
 ·obtain ⟨k,rfl⟩: ∃k:Nat,m= -(k:Int):=⟨m.natAbs,by omega⟩
  have e:Int.tmod (-(k:Int)) 10= -((k % 10:Nat):Int):=by rw[Int.neg_tmod];rfl
  rw[e,Int.natAbs_neg,Int.natAbs_natCast]
  by_cases h0:k % 10=0
  ·rw[h0];rfl
  ·rw[if_pos (decide_eq_true (by omega)),Int.neg_neg,fa (by omega) (by omega)]
 ·obtain ⟨k,rfl⟩: ∃k:Nat,m=(k:Int):=⟨m.natAbs,by omega⟩
  have e:Int.tmod (k:Int) 10=((k % 10:Nat):Int):=rfl
  rw[e,if_neg (by simp;omega),Int.natAbs_natCast]
theorem ZA {m:Int} (h:I64 m):PK m 10=m.tdiv 10/\(m.tdiv 10).natAbs=m.natAbs / 10:=by
 have k:(m.tdiv 10).natAbs=m.natAbs / 10:=Int.natAbs_tdiv m 10
 unfold I64 at h
 refine ⟨?_,k⟩
 unfold PK
 exact fa (by omega) (by omega)
theorem VG {m:Int} {out:List UInt8} (h0:m≠0) (h:I64 m) (hl:out.length<=1000):dw (m,mkB out)=some (.nxt (m.tdiv 10,mkB (UInt8.ofNat (48+m.natAbs % 10)::out))):=by
 unfold dw
 simp only[]
 rw[if_pos (by simpa using h0),ZQ,aa,ZP (Nat.mod_lt _ (by omega)),Eh _ _ (by simp;omega),aa,(ZA h).1];rfl
theorem Tg (u:Nat):1<=Lib.nDigits u:=by
 by_cases h:u<10
 ·rw[Lib.nDigits_small h];omega
 ·rw[Lib.nDigits_big h];omega
theorem OK: ∀(k:Nat) (m:Int) (out:List UInt8),m≠0->I64 m->Lib.nDigits m.natAbs<=k->out.length+Lib.nDigits m.natAbs<=100->ax dw (k+1) (m,mkB out)=some (.brk (0,mkB (Lib.decDigits m.natAbs++out)))
 | 0,m,out,_,_,h,_=>by have:=Tg m.natAbs;omega
 | k+1,m,out,h0,hm,h,hl=>by
  rw[ax,VG h0 hm (by omega)]
  show ax dw (k+1) (m.tdiv 10,_)=_
  have hq:=(ZA hm).2
  by_cases h1:m.natAbs<10
  ·have hz:m.tdiv 10=0:=by
    have:(m.tdiv 10).natAbs=0:=by rw[hq];omega
    omega
   rw[hz,ax]
   have:dw (0,mkB (UInt8.ofNat (48+m.natAbs % 10)::out))=some (.brk (0,mkB (UInt8.ofNat (48+m.natAbs % 10)::out))):=rfl
   rw[this,Lib.decDigits_one h1,Nat.mod_eq_of_lt h1];rfl
  ·have hz:m.tdiv 10≠0:=by
    intro e
    rw[e] at hq
    have:m.natAbs / 10=0:=by simpa using hq.symm
    omega
   have hn:=Lib.nDigits_big h1
   have hi:I64 (m.tdiv 10):=by unfold I64 at hm⊢;omega
   rw[OK k _ _ hz hi (by rw[hq];omega) (by rw[hq,ak];omega),hq]
   have:Lib.decDigits m.natAbs=Lib.decDigits (m.natAbs / 10)++ [UInt8.ofNat (48+m.natAbs % 10)]:=by rw[Lib.decDigits,dif_neg h1]
   rw[this,ai];rfl
theorem qW {n:Int} (h:I64 n):(Lib.itoa n).length<=21:=Lib.itoa_length_le n h.1 h.2
theorem YR {n:Int} (h:I64 n):Lib.nDigits n.natAbs<=21:=by
 have:=qW h
 unfold Lib.itoa at this
 split at this
 ·rw[ak,Lib.decDigits_length] at this;omega
 ·rw[Lib.decDigits_length] at this
  rw[show n.natAbs=n.toNat by omega];exact this
theorem ta {n:Int} (h:I64 n):b7 n=some (mkB (Lib.itoa n)):=by
 unfold b7
 by_cases h0:n=0
 ·subst h0
  rw[if_pos (by rfl:((0:Int)==0)=true)]
  have:Lib.itoa 0= [48]:=by unfold Lib.itoa;rw[if_neg (by decide)];exact Lib.decDigits_one (by decide)
  rw[this];rfl
 rw[if_neg (by simpa using h0)]
 have hn:=YR h
 have hf:=dC 100 (by omega)
 obtain ⟨k,hk⟩: ∃k,aX=k+1:=⟨aX - 1,by omega⟩
 have hL:ax dw aX (n,(⟨#[]⟩:ByteArray))=some (.brk (0,mkB (Lib.decDigits n.natAbs++ []))):=by
  rw[hk];exact OK k n [] h0 h (by omega) (by simp;omega)
 rw[aw hL,List.append_nil]
 have hd:(Lib.decDigits n.natAbs).length<=21:=by rw[Lib.decDigits_length];exact hn
 unfold Lib.itoa
 by_cases h1:n<0
 ·rw[if_pos (decide_eq_true h1),if_pos h1]
  show (mg (mkB [45]) _).bind _=_
  rw[Eh _ _ (by simp;omega)];rfl
 ·rw[if_neg (by simpa using h1),if_neg h1,show n.natAbs=n.toNat by omega]
theorem wc {n:Int} (h:I64 n):db n=some (mkB (Lib.itoa n)):=by
 unfold db mo R.Rr chk
 rw[if_pos (show -9223372036854775808<=n/\n<=9223372036854775807 from h)];rfl
theorem OL (xs:List (List UInt8)) (y sep:List UInt8):Lib.join (xs++ [y]) sep=if xs= [] then y else Lib.join xs sep++sep++y:=by
 cases xs with
 | nil=>rw[if_pos rfl];exact Lib.join_one _ _
 | cons x r =>
  rw[if_neg (by simp),List.cons_append,Lib.join_cons,Lib.join_cons]
  simp[Lib.joinTail,ai]
end D
namespace D
open Go.RowKit
theorem A8: ∀(a:List UInt8) (acc:Nat) (b:List UInt8),Lib.decFrom acc (a++b)=(Lib.decFrom acc a).bind fun m=>Lib.decFrom m b
 | [],acc,b=>rfl
 | x::a,acc,b=>by
  rw[List.cons_append,Lib.decFrom,Lib.decFrom]
  cases Lib.digitVal x with
  | none=>rfl
  | some d=>exact A8 a _ b
theorem OM {d:Nat} (h:d<10):Lib.digitVal (UInt8.ofNat (48+d))=some d:=by
 have e:(UInt8.ofNat (48+d)).toNat=48+d:=by simp;omega
 unfold Lib.digitVal
 rw[e,if_pos ⟨by omega,by omega⟩]
 congr 1;omega
theorem y6 {u:Nat} (h: ¬u<10):Lib.decDigits u=Lib.decDigits (u / 10)++ [UInt8.ofNat (48+u % 10)]:=by rw[Lib.decDigits,dif_neg h]
theorem Ix (u:Nat):Lib.decFrom 0 (Lib.decDigits u)=some u:=by
 induction u using Nat.strongRecOn with
 | _ u ih =>
  by_cases h:u<10
  ·rw[Lib.decDigits_one h,Lib.decFrom,OM h]
   simp[Lib.decFrom]
  ·rw[y6 h,A8,ih (u / 10) (by omega),aa,Lib.decFrom,OM (Nat.mod_lt _ (by omega))]
   simp only[Lib.decFrom]
   congr 1;omega
theorem Xp (u:Nat):Lib.decDigits u≠ []:=fun h=>by
 have:=Lib.decDigits_length u
 rw[h] at this
 have:=Tg u
 simp at *;omega
theorem CS (u:Nat):Lib.decNat (Lib.decDigits u)=some u:=by
 unfold Lib.decNat
 rw[if_neg (by simpa using Xp u),Ix]
theorem JV (u:Nat): ∃d r,d<10/\Lib.decDigits u=UInt8.ofNat (48+d)::r:=by
 induction u using Nat.strongRecOn with
 | _ u ih =>
  by_cases h:u<10
  ·exact ⟨u,[],h,Lib.decDigits_one h⟩
  ·obtain ⟨d,r,hd,e⟩:=ih (u / 10) (by omega)
   exact ⟨d,_,hd,by rw[y6 h,e];rfl⟩
theorem Iy {d:Nat} (h:d<10):(UInt8.ofNat (48+d)==45)=false/\(UInt8.ofNat (48+d)==43)=false:=by
 have: ∀d:Fin 10,(UInt8.ofNat (48+d.val)==45)=false/\(UInt8.ofNat (48+d.val)==43)=false:=by decide
 exact this ⟨d,h⟩
theorem ON (n:Int):Lib.atoi (Lib.itoa n)=some n:=by
 unfold Lib.itoa
 by_cases h:n<0
 ·rw[if_pos h]
  show (Lib.decNat (Lib.decDigits n.natAbs)).map (fun (m:Nat)=> -(m:Int))=_
  rw[CS]
  simp;omega
 ·rw[if_neg h]
  obtain ⟨d,r,hd,e⟩:=JV n.toNat
  have k:=CS n.toNat
  rw[e] at k⊢
  show (if (UInt8.ofNat (48+d)==45)=true then _ else if (UInt8.ofNat (48+d)==43)=true then _ else _)=_
  rw[if_neg (by rw[(Iy hd).1];decide),if_neg (by rw[(Iy hd).2];decide),k]
  simp;omega
def dst (p:Nat×Nat) (b:UInt8):Nat×Nat:=if 48<=b.toNat/\b.toNat<=57 then (p.1*10+(b.toNat - 48),p.2+1) else p
theorem OO {d:Nat} (h:d<10) (p:Nat×Nat):dst p (UInt8.ofNat (48+d))=(p.1*10+d,p.2+1):=by
 have e:(UInt8.ofNat (48+d)).toNat=48+d:=by simp;omega
 unfold dst
 rw[e,if_pos ⟨by omega,by omega⟩,show 48+d - 48=d by omega]
theorem OP (u:Nat):(Lib.decDigits u).foldl dst (0,0)=(u,Lib.nDigits u):=by
 induction u using Nat.strongRecOn with
 | _ u ih =>
  by_cases h:u<10
  ·rw[Lib.decDigits_one h,List.foldl_cons,List.foldl_nil,OO h,Lib.nDigits_small h];simp
  ·rw[y6 h,List.foldl_append,ih (u / 10) (by omega),List.foldl_cons,List.foldl_nil,OO (Nat.mod_lt _ (by omega)),Lib.nDigits_big h]
   congr 1
   show u / 10*10+u % 10=u
   omega
theorem RM (n:Int):(Lib.itoa n).foldl dst (0,0)=(n.natAbs,Lib.nDigits n.natAbs):=by
 unfold Lib.itoa
 split
 ·rw[List.foldl_cons,show dst (0,0) 45=(0,0) from rfl,OP]
 ·rw[OP,show n.toNat=n.natAbs by omega]
theorem Ti: ∀(l:List UInt8) (p:Nat×Nat),p.1<10 ^ p.2->(l.foldl dst p).1<10 ^ (l.foldl dst p).2
 | [],p,h=>h
 | b::l,p,h=>by
  rw[List.foldl_cons]
  refine Ti l _ ?_
  unfold dst
  split
  ·rename_i k
   show p.1*10+(b.toNat - 48)<10 ^ (p.2+1)
   rw[Nat.pow_succ];omega
  ·exact h
theorem Tj: ∀(l:List UInt8) (p:Nat×Nat),(l.foldl dst p).2<=p.2+l.length
 | [],p=>by simp
 | b::l,p=>by
  rw[List.foldl_cons]
  have:=Tj l (dst p b)
  have h:(dst p b).2<=p.2+1:=by unfold dst;split <;> simp
  rw[ak];omega
end D
namespace D
open Go.RowKit
theorem Xq: ∀(k u:Nat),1<=k->u<10 ^ k->Lib.nDigits u<=k
 | 0,u,h,_=>by omega
 | k+1,u,_,h=>by
  by_cases h1:u<10
  ·rw[Lib.nDigits_small h1];omega
  ·rw[Lib.nDigits_big h1]
   rw[Nat.pow_succ] at h
   have hk:1<=k:=by
    rcases k with _ | k
    ·simp at h;omega
    ·omega
   have:=Xq k (u / 10) hk (by omega)
   omega
theorem u8W: ∀d:Fin 10,IntKind.i64.wrap (IntKind.u8.wrap (d.val:Int))=(d.val:Int):=by decide
theorem y7 {s:ByteArray} {i:Nat} (h:i<s.size):jG s (i:Int)=some (((s.data.toList[i]'(by simpa using h)).toNat:Nat):Int):=by
 unfold jG chk
 rw[if_pos ⟨by omega,by omega⟩]
 simp only[aa]
 rw[show (i:Int).toNat=i by omega,List.getD_eq_getElem?_getD,List.getElem?_eq_getElem (by simpa using h)]
 rfl
def dtk (s:ByteArray) (i:Nat):Nat×Nat:=(s.data.toList.take i).foldl dst (0,0)
theorem OQ (s:ByteArray) (i:Nat):(dtk s i).1<10 ^ (dtk s i).2/\(dtk s i).2<=i:=by
 refine ⟨Ti _ _ (by decide),?_⟩
 have:=Tj (s.data.toList.take i) (0,0)
 rw[aA] at this
 unfold dtk
 omega
theorem VH (s:ByteArray):ax (gY s) aX (0,0,0)=some (.brk (((dtk s (min s.size 11)).1:Int),((dtk s (min s.size 11)).2:Int),((min s.size 11:Nat):Int))):=by
 refine bq (f:=gY s) (fun i=>(((dtk s i).1:Int),((dtk s i).2:Int),(i:Int))) (min s.size 11) (fun i hi=>?_) ?_ (dC _ (by omega))
 ·have h1:i<s.size:=by omega
  have hl:i<s.data.toList.length:=by simpa using h1
  have hd:dtk s (i+1)=dst (dtk s i) (s.data.toList[i]):=by
   unfold dtk
   rw[List.take_succ_eq_append_getElem hl,List.foldl_append];rfl
  obtain ⟨b1,b2⟩:=OQ s i
  have b3:10 ^ (dtk s i).2<=10 ^ 10:=Nat.pow_le_pow_right (by omega) (by omega)
  unfold gY
  simp only[]
  rw[if_pos (decide_eq_true (by omega)),if_pos (decide_eq_true (by omega)),y7 h1,hd]
  generalize s.data.toList[i] =b
  generalize dtk s i=p at *
  simp only[aa]
  unfold dst
  by_cases c1:48<=b.toNat
  ·rw[if_pos (decide_eq_true (by omega))]
   by_cases c2:b.toNat<=57
   ·rw[if_pos (decide_eq_true (by omega)),if_pos ⟨c1,c2⟩]
    obtain ⟨d,hd,e⟩: ∃d,d<10/\b.toNat=48+d:=⟨b.toNat - 48,by omega,by omega⟩
    rw[e,show ((48+d:Nat):Int) - 48=(d:Int) by omega,u8W ⟨d,hd⟩]
    simp only[aa]
    rw[fa (n:=(p.1:Int)*10) (by omega) (by omega),fa (by show _<=_+(d:Int);omega) (by show _+(d:Int)<=_;omega),af (by omega),af (by omega)]
    congr 4
    show (p.1:Int)*10+(d:Int)=((p.1*10+(48+d - 48):Nat):Int)
    omega
   ·rw[if_neg (by simp;omega),if_neg (by omega)]
    simp only[aa]
    rw[af (by omega)]
  ·rw[if_neg (by simp;omega),if_neg (by omega)]
   simp only[aa]
   rw[af (by omega)]
 ·unfold gY
  simp only[]
  by_cases h:s.size<=11
  ·rw[Nat.min_eq_left h,if_neg (by simp)]
  ·rw[Nat.min_eq_right (by omega),if_pos (decide_eq_true (by omega)),if_neg (by simp)]
def sgn (s:ByteArray):Int:=if s.data.toList.head? =some 45 then -((dtk s (min s.size 11)).1:Int) else ((dtk s (min s.size 11)).1:Int)
theorem Tk (s:ByteArray):(sgn s).natAbs<10 ^ (dtk s (min s.size 11)).2/\(sgn s).natAbs<10 ^ 11:=by
 obtain ⟨b1,b2⟩:=OQ s (min s.size 11)
 have b3:10 ^ (dtk s (min s.size 11)).2<=10 ^ 11:=Nat.pow_le_pow_right (by omega) (by omega)
 have:(sgn s).natAbs=(dtk s (min s.size 11)).1:=by unfold sgn;split <;> omega
 omega
theorem Tl (s:ByteArray):fJ s=if 9<(dtk s (min s.size 11)).2\/10<s.size then some (0,false) else if mkB (Lib.itoa (sgn s))=s then some (sgn s,true) else some (0,false):=by
 have hs:=(Tk s).2
 have hi:I64 (sgn s):=by unfold I64;omega
 obtain ⟨b1,b2⟩:=OQ s (min s.size 11)
 have b3:10 ^ (dtk s (min s.size 11)).2<=10 ^ 11:=Nat.pow_le_pow_right (by omega) (by omega)
 have fin: ∀z:Int,z=sgn s->(if decide (((dtk s (min s.size 11)).2:Int)>9) then (some (0,false)) else (if decide (((s.size:Nat):Int)>10) then (some (0,false)) else ((b7 z).bind fun r10=>if r10 !=s then (some (0,false)) else (some (z,true)))):Option (Int×Bool))=if 9<(dtk s (min s.size 11)).2\/10<s.size then some (0,false) else if mkB (Lib.itoa (sgn s))=s then some (sgn s,true) else some (0,false):=by
  rintro z rfl
  by_cases c1:9<(dtk s (min s.size 11)).2
  ·rw[if_pos (decide_eq_true (by omega)),if_pos (Or.inl c1)]
  ·rw[if_neg (by simp;omega)]
   by_cases c2:10<s.size
   ·rw[if_pos (decide_eq_true (by omega)),if_pos (Or.inr c2)]
   ·rw[if_neg (by simp;omega),if_neg (by omega),ta hi,aa]
    by_cases c3:mkB (Lib.itoa (sgn s))=s
    ·rw[if_pos c3,if_neg (by simp[c3])]
    ·rw[if_neg c3,if_pos (by simpa using c3)]
 unfold fJ
 rw[aw (VH s)]
 simp only[]
 by_cases h0:0<s.size
 ·rw[if_pos (decide_eq_true (by omega))]
  have hl:0<s.data.toList.length:=by simpa using h0
  have e0:jG s 0=some (((s.data.toList[0]).toNat:Nat):Int):=y7 (i:=0) h0
  have eh:s.data.toList.head? =some s.data.toList[0]:=by rw[List.head?_eq_getElem?,List.getElem?_eq_getElem hl]
  rw[e0,aa]
  by_cases c:s.data.toList[0] =45
  ·rw[if_pos (by rw[c];rfl),aa,fa (by omega) (by omega)]
   exact fin _ (by unfold sgn;rw[eh,if_pos (by rw[c])])
  ·have hn:(s.data.toList[0]).toNat≠45:=fun e=>c (UInt8.toNat_inj.1 e)
   rw[if_neg (fun e=>hn (by have:=eq_of_beq e;omega)),aa]
   exact fin _ (by unfold sgn;rw[eh,if_neg (by simpa using c)])
 ·rw[if_neg (by rw[decide_eq_true_eq];omega)]
  have he:s.data.toList.head? =none:=by
   have:s.data.toList= []:=List.eq_nil_of_length_eq_zero (by
    have:s.data.toList.length=s.size:=by simp
    omega)
   rw[this];rfl
  exact fin _ (by unfold sgn;rw[he,if_neg (by simp)])
theorem RN {n:Int} (h: -999999999<=n/\n<=999999999):Lib.nDigits n.natAbs<=9/\(Lib.itoa n).length<=10:=by
 have k:Lib.nDigits n.natAbs<=9:=Xq 9 _ (by omega) (by omega)
 refine ⟨k,?_⟩
 unfold Lib.itoa
 split
 ·rw[ak,Lib.decDigits_length];omega
 ·rw[Lib.decDigits_length,show n.toNat=n.natAbs by omega];omega
theorem OR (n:Int):((Lib.itoa n).head? =some 45)↔n<0:=by
 unfold Lib.itoa
 split
 ·rename_i h;simp[h]
 ·rename_i h
  obtain ⟨d,r,hd,e⟩:=JV n.toNat
  rw[e]
  have:=(Iy hd).1
  simp only[List.head?_cons,Option.some.injEq]
  constructor
  ·intro k;rw[k] at this;simp at this
  ·intro k;omega
theorem Ei {n:Int} (h: -999999999<=n/\n<=999999999):fJ (mkB (Lib.itoa n))=some (n,true)/\fL (mkB (Lib.itoa n))=some (n,true):=by
 obtain ⟨h9,h10⟩:=RN h
 constructor
 ·have ed:dtk (mkB (Lib.itoa n)) (min (mkB (Lib.itoa n)).size 11)=(n.natAbs,Lib.nDigits n.natAbs):=by
   unfold dtk
   rw[eW,bP,Nat.min_eq_left (by omega),List.take_length,RM]
  have es:sgn (mkB (Lib.itoa n))=n:=by
   unfold sgn
   rw[ed,eW]
   by_cases c:n<0
   ·rw[if_pos ((OR n).2 c)];show -(n.natAbs:Int)=n;omega
   ·rw[if_neg fun k=>c ((OR n).1 k)];show (n.natAbs:Int)=n;omega
  rw[Tl,ed,es,bP,if_neg (by show¬(9<Lib.nDigits n.natAbs\/_);omega),if_pos rfl]
 ·unfold fL R.rz
  rw[bP,eW,if_neg (by omega),ON]
  show (if _ then _ else _)=_
  rw[if_pos ⟨rfl,h.1,h.2⟩]
theorem JW {s:ByteArray} (h: ¬ ∃n:Int,(-999999999<=n/\n<=999999999)/\s=mkB (Lib.itoa n)):fJ s=some (0,false)/\fL s=some (0,false):=by
 constructor
 ·rw[Tl]
  by_cases c:9<(dtk s (min s.size 11)).2\/10<s.size
  ·rw[if_pos c]
  ·rw[if_neg c,if_neg]
   intro e
   have b1:=(Tk s).1
   have b3:10 ^ (dtk s (min s.size 11)).2<=10 ^ 9:=Nat.pow_le_pow_right (by omega) (by omega)
   exact h ⟨sgn s,by omega,e.symm⟩
 ·unfold fL R.rz
  by_cases c:10<s.size
  ·rw[if_pos c]
  ·rw[if_neg c]
   cases ha:Lib.atoi s.data.toList with
   | none=>rfl
   | some n =>
    show (if _ then _ else _)=_
    rw[if_neg fun k=>h ⟨n,k.2,k.1.symm⟩]
theorem qn (s:ByteArray): ∃r:Int×Bool,fJ s=some r/\fL s=some r/\((r.2=true/\(-999999999<=r.1/\r.1<=999999999)/\s=mkB (Lib.itoa r.1))\/r=(0,false)):=by
 by_cases h: ∃n:Int,(-999999999<=n/\n<=999999999)/\s=mkB (Lib.itoa n)
 ·obtain ⟨n,hn,rfl⟩:=h
  exact ⟨_,(Ei hn).1,(Ei hn).2,.inl ⟨rfl,hn,rfl⟩⟩
 ·exact ⟨_,(JW h).1,(JW h).2,.inr rfl⟩
end D
namespace D
open Go.RowKit
abbrev AutT:=Int×(List Bool)×(List (List Int))
structure VA (a:AutT) (n:Nat):Prop where
 len:a.2.1.length=n
 start:0<=a.1/\a.1<n
 nlen:a.2.2.length=n
 row: ∀r∈a.2.2,r.length=9
 ent: ∀r∈a.2.2,∀t∈r,-1<=t/\t<n
def mv (a:AutT) (s:Int) (k:Nat):Int:=nth (nth a.2.2 s) k
theorem LQ (x l h:Int):cH x l h=some (decide (l<=x/\x<=h)):=by
 unfold cH
 by_cases c:l<=x
 ·simp[c]
 ·have: ¬l<=x/\True:=⟨c,trivial⟩
  simp[c]
theorem GZ (x l h:Int):bX x l h=some (decide (l<=x/\x<=h)):=by
 unfold bX
 by_cases c:l<=x
 ·simp[c]
 ·simp[c]
theorem scan {α R:Type} [Inhabited α] {f:Int->Option (Out R Int)} (xs:List α) (p:α->Prop) [DecidablePred p] (r:R) (hN:xs.length<=9223372036854775807)
  (h: ∀i:Nat,i<xs.length->f (i:Int)=some (if p (nth xs i) then .nxt ((i+1:Nat):Int) else .ret r)) (he:f (xs.length:Int)=some (.brk (xs.length:Int))) :
  (ax f aX 0=some (.brk (xs.length:Int))/\ ∀x∈xs,p x)\/(ax f aX 0=some (.ret r)/\ ¬ ∀x∈xs,p x):=by
 obtain ⟨o,e,hq⟩:=cT (f:=f) (fun i s=>s=(i:Int)/\ ∀j:Nat,j<i->p (nth xs j)) (fun o=>(o= .brk (xs.length:Int)/\ ∀x∈xs,p x)\/(o= .ret r/\ ¬ ∀x∈xs,p x)) xs.length (s:=0) (by
  rintro i s hi ⟨rfl,hp⟩
  by_cases hl:i<xs.length
  ·by_cases c:p (nth xs i)
   ·refine .inl ⟨hl,_,by rw[h i hl,if_pos c],rfl,fun j hj=>?_⟩
    by_cases e:j=i
    ·subst e;exact c
    ·exact hp j (by omega)
   ·refine .inr ⟨_,by rw[h i hl,if_neg c],(fun s' e=>by cases e),.inr ⟨rfl,fun hx=>c (hx _ (ct (by omega) (by omega)))⟩⟩
  ·obtain rfl:i=xs.length:=by omega
   refine .inr ⟨_,he,(fun s' e=>by cases e),.inl ⟨rfl,fun x hx=>?_⟩⟩
   obtain ⟨j,hj,rfl⟩:=Is hx
   exact hp j hj) ⟨rfl,by omega⟩ (tV hN)
 rcases hq with ⟨rfl,hq⟩ | ⟨rfl,hq⟩
 ·exact .inl ⟨e,hq⟩
 ·exact .inr ⟨e,hq⟩
section
variable {a:AutT} {n:Nat} (V:VA a n)
include V
theorem VA.pos:0<n:=by have:=V.start;omega
theorem VA.rowAt {s:Int} (h0:0<=s) (h1:s<n):(nth a.2.2 s).length=9:=V.row _ (ct h0 (by rw[V.nlen];exact h1))
theorem VA.mv {s:Int} {k:Nat} (h0:0<=s) (h1:s<n) (hk:k<9): -1<=mv a s k/\mv a s k<n:=
 V.ent _ (ct h0 (by rw[V.nlen];exact h1)) _ (ct (by omega) (by rw[V.rowAt h0 h1];omega))
theorem VA.get {s:Int} (h0:0<=s) (h1:s<n):aQ a.2.2 s=some (nth a.2.2 s):=aF h0 (by rw[V.nlen];exact h1)
theorem VA.get2 {s:Int} {k:Nat} (h0:0<=s) (h1:s<n) (hk:k<9):aQ (nth a.2.2 s) (k:Int)=some (D.mv a s k):=aF (by omega) (by rw[V.rowAt h0 h1];omega)
theorem VA.acc {s:Int} (h0:0<=s) (h1:s<n):aQ a.2.1 s=some (nth a.2.1 s):=aF h0 (by rw[V.len];exact h1)
theorem Xr {s:Int} {k:Nat} (h0:0<=s) (h1:s<n) (hk:k<9):eO a s (k:Int)=some (mv a s k):=by
 unfold eO jM
 rw[if_neg (by simp;omega),GZ];simp only[aa]
 rw[if_pos (by simp;omega),V.get h0 h1];simp only[aa]
 rw[V.get2 h0 h1 hk];rfl
end
end D
namespace D
open Go.RowKit
theorem Ej (s:ByteArray):fI s=jO s:=by
 have e:fC s=nt s:=by
  funext p
  unfold fC nt
  rw[Int.mul_comm p.1 257]
 unfold fI jO
 rw[e]
theorem GI (s:ByteArray) (h:s.size<=9223372036854775806): ∃r:Int,fI s=some r/\jO s=some r/\0<=r/\r<=9972:=by
 obtain ⟨p,e,h1,h2,h3⟩:=nP (f:=fC s) (fun i p=>p.2=(i:Int)/\0<=p.1/\p.1<=9972) s.size (fun i p hi hI=>by
  obtain ⟨n,j⟩:=p
  obtain ⟨h1,h2,h3⟩:=hI
  simp only at h1 h2 h3
  subst h1
  unfold fC
  simp only[]
  rw[if_pos (decide_eq_true (by omega)),y7 hi]
  simp only[aa]
  generalize s.data.toList[i] =b
  have hb:b.toNat<256:=b.toNat_lt
  rw[fa (n:=((b.toNat:Nat):Int)) (by omega) (by omega),fa (n:=n*257) (by omega) (by omega),fa (n:=n*257+(b.toNat:Int)) (by omega) (by omega),fa (n:=n*257+(b.toNat:Int)+1) (by omega) (by omega),af (by omega)]
  refine ⟨_,rfl,rfl,?_,?_⟩
  ·exact Int.tmod_nonneg _ (by omega)
  ·have:Int.tmod (n*257+(b.toNat:Int)+1) 9973<9973:=Int.tmod_lt_of_pos _ (by decide)
   show Int.tmod (n*257+(b.toNat:Int)+1) 9973<=9972
   omega) (fun p hI=>by
  obtain ⟨n,j⟩:=p
  obtain ⟨h1,-⟩:=hI
  simp only at h1
  subst h1
  unfold fC
  simp only[]
  rw[if_neg (by simp)]) (s:=(1,0)) ⟨rfl,by decide,by decide⟩ (dC _ (by omega))
 have k:fI s=some p.1:=by
  unfold fI
  rw[aw e]
 exact ⟨p.1,k,by rw[<-Ej];exact k,h2,h3⟩
def edOk (e:Int×Int×Int×Int):Prop:=(1<=e.1/\e.1<=99)/\(0<=e.2.1/\e.2.1<=4)/\(0<=e.2.2.1/\e.2.2.1<=4)/\(0<=e.2.2.2/\e.2.2.2<=2)
instance (e:Int×Int×Int×Int):Decidable (edOk e):=inferInstanceAs (Decidable (_/\_))
def sk (e:Int×Int×Int×Int):List UInt8:=Lib.itoa e.1++ [58] ++Lib.itoa e.2.1++ [UInt8.ofNat (97+e.2.2.2.toNat)] ++Lib.itoa e.2.2.1
theorem RO: ∀k:Fin 3,eG (IntKind.i64.wrap (2*(k.val:Int)))=some (mkB [UInt8.ofNat (97+k.val)]):=by
 intro k
 match k with
 | ⟨0,_⟩=>rfl
 | ⟨1,_⟩=>rfl
 | ⟨2,_⟩=>rfl
theorem RP: ∀k:Fin 3,qY (⟨#[97,98,99]⟩) (k.val:Int) (IntKind.i64.wrap ((k.val:Int)+1))=some (mkB [UInt8.ofNat (97+k.val)]):=by
 intro k
 match k with
 | ⟨0,_⟩=>rfl
 | ⟨1,_⟩=>rfl
 | ⟨2,_⟩=>rfl
theorem OS (e:Int×Int×Int×Int):iY e=some (if edOk e then mkB (sk e) else mkB []):=by
 unfold iY
 rw[LQ,LQ,LQ,LQ]
 simp only[aa]
 by_cases h:edOk e
 ·obtain ⟨h1,h2,h3,h4⟩:=h
  rw[if_pos (decide_eq_true h1),if_pos (decide_eq_true h2),if_pos (decide_eq_true h3),if_pos (decide_eq_true h4),if_pos ⟨h1,h2,h3,h4⟩]
  have i1:I64 e.1:=by unfold I64;omega
  have i2:I64 e.2.1:=by unfold I64;omega
  have i3:I64 e.2.2.1:=by unfold I64;omega
  have n1:=qW i1
  have n2:=qW i2
  have n3:=qW i3
  obtain ⟨k,hk,ek⟩: ∃k:Nat,k<3/\e.2.2.2=(k:Int):=⟨e.2.2.2.toNat,by omega,by omega⟩
  rw[ta i1,ta i2,ta i3,ek,RO ⟨k,hk⟩]
  simp only[aa]
  have c1:mg (mkB (Lib.itoa e.1)) (⟨#[58]⟩)=some (mkB (Lib.itoa e.1++ [58])):=Eh _ [58] (by simp;omega)
  rw[c1]
  simp only[aa]
  rw[Eh _ _ (by simp;omega)]
  simp only[aa]
  rw[Eh _ _ (by simp;omega)]
  simp only[aa]
  rw[Eh _ _ (by simp;omega)]
  simp only[aa]
  unfold sk
  rw[ek];rfl
 ·rw[if_neg h]
  split
  ·split
   ·split
    ·split
     ·rename_i a b c d
      exact absurd ⟨of_decide_eq_true a,of_decide_eq_true b,of_decide_eq_true c,of_decide_eq_true d⟩ h
     ·rfl
    ·rfl
   ·rfl
  ·rfl
theorem OT (e:Int×Int×Int×Int):iZ e=some (if edOk e then mkB (sk e) else mkB []):=by
 have h5:IntKind.i64.wrap (5 - 1)=4:=by decide
 have hok:jL (e.1,e.2.1,e.2.2.1,e.2.2.2) 5=some (decide (edOk e)):=by
  unfold jL
  rw[h5,GZ,GZ,GZ,GZ]
  simp only[aa]
  by_cases h1:1<=e.1/\e.1<=99
  ·rw[if_pos (decide_eq_true h1)]
   by_cases h2:0<=e.2.1/\e.2.1<=4
   ·rw[if_pos (decide_eq_true h2)]
    by_cases h3:0<=e.2.2.1/\e.2.2.1<=4
    ·rw[if_pos (decide_eq_true h3)]
     congr 1
     exact decide_eq_decide.2 ⟨fun h4=>⟨h1,h2,h3,h4⟩,fun h=>h.2.2.2⟩
    ·rw[if_neg (by simpa using h3),decide_eq_false (fun h:edOk e=>h3 h.2.2.1)]
   ·rw[if_neg (by simpa using h2),decide_eq_false (fun h:edOk e=>h2 h.2.1)]
  ·rw[if_neg (by simpa using h1),decide_eq_false (fun h:edOk e=>h1 h.1)]
 unfold iZ
 rw[hok]
 simp only[aa]
 by_cases h:edOk e
 ·rw[if_pos (decide_eq_true h),if_pos h]
  obtain ⟨h1,h2,h3,h4⟩:=h
  have i1:I64 e.1:=by unfold I64;omega
  have i2:I64 e.2.1:=by unfold I64;omega
  have i3:I64 e.2.2.1:=by unfold I64;omega
  have n1:=qW i1
  have n2:=qW i2
  have n3:=qW i3
  obtain ⟨k,hk,ek⟩: ∃k:Nat,k<3/\e.2.2.2=(k:Int):=⟨e.2.2.2.toNat,by omega,by omega⟩
  rw[wc i1,wc i2,wc i3,ek,RP ⟨k,hk⟩]
  simp only[aa]
  have c1:mg (mkB (Lib.itoa e.1)) (⟨#[58]⟩)=some (mkB (Lib.itoa e.1++ [58])):=Eh _ [58] (by simp;omega)
  rw[c1]
  simp only[aa]
  rw[Eh _ _ (by simp;omega)]
  simp only[aa]
  rw[Eh _ _ (by simp;omega)]
  simp only[aa]
  rw[Eh _ _ (by simp;omega)]
  simp only[aa]
  unfold sk
  rw[ek];rfl
 ·rw[if_neg (by simpa using h),if_neg h];rfl
end D
namespace D
open Go.RowKit
abbrev ChT:Type:=Bool×Int×Int×Int×Int
def oS (c:ChT):List UInt8:=(if c.1 then 43 else 45)::sk c.2
def btx (l:List ChT):List UInt8:=Lib.join (l.map oS) [32]
def y8 (l:List ChT):Prop:= ∀c,c∈l->edOk c.2
theorem tc {e:Int×Int×Int×Int} (h:edOk e):(sk e).length<=70:=by
 obtain ⟨h1,h2,h3,h4⟩:=h
 have n1:=qW (n:=e.1) (by unfold I64;omega)
 have n2:=qW (n:=e.2.1) (by unfold I64;omega)
 have n3:=qW (n:=e.2.2.1) (by unfold I64;omega)
 unfold sk
 simp only[al,ak,aG];omega
theorem OU (e:Int×Int×Int×Int):(mkB (sk e)==(⟨#[]⟩:ByteArray))=false:=by
 rw[beq_eq_false_iff_ne]
 intro k
 have:=congrArg ByteArray.size k
 rw[bP] at this
 unfold sk at this
 simp only[al,ak,aG] at this
 have e0:(⟨#[]⟩:ByteArray).size=0:=rfl
 omega
theorem OV: ∀(r:List ChT),y8 r->(Lib.joinTail [32] (r.map oS)).length<=72*r.length
 | [],_=>by simp[Lib.joinTail]
 | c::r,h=>by
  have h1:=OV r fun q hq=>h q (bj _ hq)
  have h2:=tc (h c (by simp))
  have e:Lib.joinTail [32] ((c::r).map oS)=([32] ++oS c)++Lib.joinTail [32] (r.map oS):=by simp[Lib.joinTail]
  rw[e,al,al,ak]
  unfold oS
  simp only[ak,aG]
  unfold oS at h1
  omega
theorem Ek {l:List ChT} (h:y8 l):(btx l).length<=72*l.length:=by
 cases l with
 | nil=>simp[btx,Lib.join_nil]
 | cons c r =>
  have h1:=OV r fun q hq=>h q (bj _ hq)
  have h2:=tc (h c (by simp))
  unfold btx
  rw[List.map_cons,Lib.join_cons,al,ak]
  have:(oS c).length=(sk c.2).length+1:=by unfold oS;rw[ak]
  omega
theorem RQ {l:List ChT} {i:Nat} (hi:i<l.length):btx (l.take (i+1))=if i=0 then oS l[i] else btx (l.take i)++ [32] ++oS l[i]:=by
 unfold btx
 rw[List.take_succ_eq_append_getElem hi,aO,List.map_cons,List.map_nil,OL]
 by_cases h:i=0
 ·subst h;rw[if_pos (by simp),if_pos rfl]
 ·rw[if_neg (by
   intro e
   have:=congrArg List.length e
   rw[List.length_map,aA,aG] at this
   omega),if_neg h]
theorem GJ {l:List ChT} {i:Nat} (hi:i<l.length) (h:y8 (l.take i)) (k:edOk l[i].2):y8 (l.take (i+1)):=by
 rw[List.take_succ_eq_append_getElem hi]
 intro c hc
 rcases aI hc with hc | hc
 ·exact h c hc
 ·obtain rfl:=ay hc;exact k
theorem VI {l:List ChT} (hl:l.length<=6):(y8 l/\ax (eQ l) aX (([] :List ByteArray),0)=some (.brk (l.map (fun c=>mkB (oS c)),(l.length:Int))))\/(¬y8 l/\ax (eQ l) aX (([] :List ByteArray),0)=some (.ret (mkB []))):=by
 obtain ⟨o,e,hQ⟩:=cT (f:=eQ l) (fun i s=>s=((l.take i).map (fun c=>mkB (oS c)),(i:Int))/\y8 (l.take i)) (fun o=>(y8 l/\o= .brk (l.map (fun c=>mkB (oS c)),(l.length:Int)))\/(¬y8 l/\o= .ret (mkB []))) l.length (fun i s hi hI=>by
  obtain ⟨rfl,hb⟩:=hI
  unfold eQ
  simp only[]
  by_cases h1:i<l.length
  ·rw[bJ h1,if_pos rfl,aD h1]
   simp only[aa]
   rw[OT]
   simp only[aa]
   by_cases k:edOk l[i].2
   ·have n1:=tc k
    have c1:mg (⟨#[43]⟩) (mkB (sk l[i].2))=some (mkB (43::sk l[i].2)):=Eh [43] _ (by simp;omega)
    have c2:mg (⟨#[45]⟩) (mkB (sk l[i].2))=some (mkB (45::sk l[i].2)):=Eh [45] _ (by simp;omega)
    have hx: ∀z:ByteArray,cz 16 ((l.take i).map (fun c=>mkB (oS c))) [z] =some ((l.take i).map (fun c=>mkB (oS c))++ [z]):=fun z=>aL (by rw[List.length_map,aA];simp only[ak,aG];omega)
    refine .inl ⟨h1,((l.take (i+1)).map (fun c=>mkB (oS c)),((i+1:Nat):Int)),?_,rfl,GJ h1 hb k⟩
    rw[if_pos k,if_neg (by rw[OU];decide),c1,c2]
    simp only[aa]
    rw[hx,hx,List.take_succ_eq_append_getElem h1,aO,List.map_cons,List.map_nil,<-af (show i<9223372036854775807 by omega)]
    have ec:oS l[i] =(if l[i].1=true then 43 else 45)::sk l[i].2:=rfl
    rw[ec]
    generalize l[i].1=t
    cases t <;> rfl
   ·refine .inr ⟨.ret (mkB []),?_,fun s' h=>(by simp at h),.inr ⟨fun h=>k (h _ (List.getElem_mem h1)),rfl⟩⟩
    rw[if_neg k];rfl
  ·obtain rfl:i=l.length:=by omega
   rw[List.take_length] at hb
   refine .inr ⟨_,by rw[bm];rfl,fun s' h=>(by simp at h),.inl ⟨hb,by rw[List.take_length]⟩⟩) (s:=([],0)) ⟨rfl,fun c hc=>by simp at hc⟩ (dC _ (by omega))
 rcases hQ with ⟨h,rfl⟩ | ⟨h,rfl⟩
 ·exact .inl ⟨h,e⟩
 ·exact .inr ⟨h,e⟩
theorem VJ {l:List ChT} (hl:l.length<=6):(y8 l/\ax (eL l) aX ((⟨#[]⟩:ByteArray),0)=some (.brk (mkB (btx l),(l.length:Int))))\/(¬y8 l/\ax (eL l) aX ((⟨#[]⟩:ByteArray),0)=some (.ret (mkB []))):=by
 obtain ⟨o,e,hQ⟩:=cT (f:=eL l) (fun i s=>s=(mkB (btx (l.take i)),(i:Int))/\y8 (l.take i)) (fun o=>(y8 l/\o= .brk (mkB (btx l),(l.length:Int)))\/(¬y8 l/\o= .ret (mkB []))) l.length (fun i s hi hI=>by
  obtain ⟨rfl,hb⟩:=hI
  have hn:=Ek hb
  rw[aA] at hn
  unfold eL
  simp only[]
  by_cases h1:i<l.length
  ·rw[bJ h1,if_pos rfl,aD h1]
   simp only[aa]
   rw[OS]
   simp only[aa]
   by_cases k:edOk l[i].2
   ·have n1:=tc k
    refine .inl ⟨h1,(mkB (btx (l.take (i+1))),((i+1:Nat):Int)),?_,rfl,GJ h1 hb k⟩
    rw[if_pos k,if_neg (by rw[OU];decide),RQ h1,<-af (show i<9223372036854775807 by omega)]
    have ec:oS l[i] =(if l[i].1=true then 43 else 45)::sk l[i].2:=rfl
    rw[ec]
    generalize l[i].1=t
    have g1: ∀(a:List UInt8) (b:UInt8),a.length<=1000->mg (mkB a) (mkB [b])=some (mkB (a++ [b])):=fun a b ha=>Eh _ _ (by simp;omega)
    have g2: ∀(a:List UInt8) (b:UInt8),a.length<=1000->mg (mkB (a++ [b])) (mkB (sk l[i].2))=some (mkB (a++b::sk l[i].2)):=fun a b ha=>by
     rw[Eh _ _ (by simp;omega),ai];rfl
    by_cases h0:i=0
    ·subst h0
     have eb:btx (l.take 0)= []:=rfl
     have q1:=g1 [] 43 (by simp)
     have q2:=g1 [] 45 (by simp)
     have q3:=g2 [] 43 (by simp)
     have q4:=g2 [] 45 (by simp)
     have l1:(⟨#[43]⟩:ByteArray)=mkB [43]:=rfl
     have l2:(⟨#[45]⟩:ByteArray)=mkB [45]:=rfl
     rw[eb,if_pos rfl,if_neg (by simp)]
     simp only[aa]
     rw[l1,l2,q1,q2]
     simp only[aa]
     rw[q3,q4]
     cases t <;> rfl
    ·have hs:=g1 (btx (l.take i)) 32 (by omega)
     have q1:=g1 (btx (l.take i)++ [32]) 43 (by simp;omega)
     have q2:=g1 (btx (l.take i)++ [32]) 45 (by simp;omega)
     have q3:=g2 (btx (l.take i)++ [32]) 43 (by simp;omega)
     have q4:=g2 (btx (l.take i)++ [32]) 45 (by simp;omega)
     have l1:(⟨#[43]⟩:ByteArray)=mkB [43]:=rfl
     have l2:(⟨#[45]⟩:ByteArray)=mkB [45]:=rfl
     have l3:(⟨#[32]⟩:ByteArray)=mkB [32]:=rfl
     rw[if_neg h0,if_pos (decide_eq_true (by omega)),l1,l2,l3,hs]
     simp only[aa]
     rw[q1,q2]
     simp only[aa]
     rw[q3,q4]
     cases t <;> rfl
   ·refine .inr ⟨.ret (mkB []),?_,fun s' h=>(by simp at h),.inr ⟨fun h=>k (h _ (List.getElem_mem h1)),rfl⟩⟩
    rw[if_neg k];rfl
  ·obtain rfl:i=l.length:=by omega
   rw[List.take_length] at hb
   refine .inr ⟨_,by rw[bm];rfl,fun s' h=>(by simp at h),.inl ⟨hb,by rw[List.take_length]⟩⟩) (s:=((⟨#[]⟩:ByteArray),0)) ⟨rfl,fun c hc=>by simp at hc⟩ (dC _ (by omega))
 rcases hQ with ⟨h,rfl⟩ | ⟨h,rfl⟩
 ·exact .inl ⟨h,e⟩
 ·exact .inr ⟨h,e⟩
open Classical in
theorem tf (l:List ChT):cP l=some (if l.length<=6/\y8 l then mkB (btx l) else mkB [])/\dP l=some (if l.length<=6/\y8 l then mkB (btx l) else mkB []):=by
 unfold cP dP
 by_cases h6:l.length<=6
 ·have hd: ¬decide ((l.length:Int)>6)=true:=by rw[decide_eq_true_eq];omega
  constructor
  ·rw[if_neg hd]
   rcases VJ h6 with ⟨h,e⟩ | ⟨h,e⟩
   ·rw[aw e,if_pos ⟨h6,h⟩]
   ·rw[cd e,if_neg fun k=>h k.2]
  ·rw[if_neg hd]
   rcases VI h6 with ⟨h,e⟩ | ⟨h,e⟩
   ·have hn:=Ek h
    rw[aw e,if_pos ⟨h6,h⟩]
    show (jk (l.map fun p=>mkB (oS p)) (mkB [32])).bind _=_
    unfold jk R.Rq chk
    have e:(l.map fun p=>mkB (oS p)).map (·.data.toList)=l.map oS:=by
     rw[List.map_map]
     exact List.map_congr_left fun p _=>eW _
    rw[e,eW,List.length_map,if_pos ⟨by omega,by show (btx l).length<=_;omega⟩];rfl
   ·rw[cd e,if_neg fun k=>h k.2]
 ·have hd:decide ((l.length:Int)>6)=true:=decide_eq_true (by omega)
  constructor
  ·rw[if_pos hd,if_neg fun k=>h6 k.1];rfl
  ·rw[if_pos hd,if_neg fun k=>h6 k.1];rfl
end D
namespace D
open Go.RowKit
theorem A9 (v:Int) (l:List ChT): ∃r:ByteArray,eH v l=some r/\gu v l=some r/\r.size<=1000:=by
 obtain ⟨es,ei⟩:=tf l
 obtain ⟨t,et,hn⟩: ∃t:List UInt8,(cP l=some (mkB t)/\dP l=some (mkB t))/\t.length<=432:=by
  by_cases h:l.length<=6/\y8 l
  ·have:=Ek h.2
   refine ⟨btx l,⟨?_,?_⟩,by omega⟩
   ·rw[es,if_pos h]
   ·rw[ei,if_pos h]
  ·refine ⟨[],⟨?_,?_⟩,by simp⟩
   ·rw[es,if_neg h]
   ·rw[ei,if_neg h]
 obtain ⟨e1,e2⟩:=et
 unfold eH gu
 rw[e1,e2,LQ,GZ]
 simp only[aa]
 by_cases hv:1<=v/\v<=999
 ·have iv:I64 v:=by unfold I64;omega
  have nv:=qW iv
  have c1:mg (mkB (Lib.itoa v)) (⟨#[59]⟩)=some (mkB (Lib.itoa v++ [59])):=Eh _ [59] (by simp;omega)
  have c2:mg (mkB (Lib.itoa v++ [59])) (mkB t)=some (mkB (Lib.itoa v++ [59] ++t)):=Eh _ _ (by simp;omega)
  have c3:mg (mkB (Lib.itoa v++ [59] ++t)) (⟨#[59]⟩)=some (mkB (Lib.itoa v++ [59] ++t++ [59])):=Eh _ [59] (by simp;omega)
  obtain ⟨q,k1,k2,q1,q2⟩:=GI (mkB (Lib.itoa v++ [59] ++t++ [59])) (by rw[bP];simp;omega)
  have iq:I64 q:=by unfold I64;omega
  have nq:=qW iq
  have c4:mg (mkB (Lib.itoa v++ [59] ++t++ [59])) (mkB (Lib.itoa q))=some (mkB (Lib.itoa v++ [59] ++t++ [59] ++Lib.itoa q)):=Eh _ _ (by simp;omega)
  have c5:mg (mkB (Lib.itoa v++ [59] ++t++ [59] ++Lib.itoa q)) (⟨#[10]⟩)=some (mkB (Lib.itoa v++ [59] ++t++ [59] ++Lib.itoa q++ [10])):=Eh _ [10] (by simp;omega)
  have hs:(mkB (Lib.itoa v++ [59] ++t++ [59] ++Lib.itoa q++ [10])).size<=1000:=by rw[bP];simp;omega
  have h0:((⟨#[]⟩:ByteArray)).size<=1000:=by decide
  rw[decide_eq_true hv]
  simp only[if_true,ta iv,wc iv,ta iq,wc iq,c1,c2,c3,k1,k2,c4,c5,aa]
  by_cases a:decide ((l.length:Int)>0)=true
  ·by_cases b:(mkB t==(⟨#[]⟩:ByteArray))=true
   ·simp only[if_pos a,if_pos b];exact ⟨_,rfl,rfl,h0⟩
   ·simp only[if_pos a,if_neg b];exact ⟨_,rfl,rfl,hs⟩
  ·by_cases b:(mkB t==(⟨#[]⟩:ByteArray))=true
   ·simp only[if_neg a,if_pos b];exact ⟨_,rfl,rfl,hs⟩
   ·simp only[if_neg a,if_neg b];exact ⟨_,rfl,rfl,hs⟩
 ·rw[decide_eq_false hv]
  exact ⟨_,rfl,rfl,by decide⟩
end D
namespace D
open Go.RowKit
def oT (c:UInt8) (cur:List UInt8):List UInt8->List (List UInt8)
 | [] =>[cur]
 | b::l=>if b=c then cur::oT c [] l else oT c (cur++ [b]) l
theorem nR {c:UInt8} : ∀ {l cur:List UInt8},c∉l->oT c cur l= [cur++l]
 | [],cur,_=>by simp[oT]
 | b::l,cur,h=>by
  have hb:b≠c:=fun e=>h (by simp[e])
  rw[oT,if_neg hb,nR fun k=>h (bj _ k)]
  simp
theorem qo {c:UInt8} : ∀ {a cur r:List UInt8},c∉a->oT c cur (a++c::r)=(cur++a)::oT c [] r
 | [],cur,r,_=>by simp[oT]
 | b::a,cur,r,h=>by
  have hb:b≠c:=fun e=>h (by simp[e])
  rw[List.cons_append,oT,if_neg hb,qo fun k=>h (bj _ k)]
  simp
theorem El (c:UInt8): ∀(l cur:List UInt8),(oT c cur l).length<=l.length+1
 | [],cur=>by simp[oT]
 | b::l,cur=>by
  rw[oT]
  split
  ·have:=El c l [];simp only[ak];omega
  ·have:=El c l (cur++ [b]);simp only[ak];omega
theorem sn (c:UInt8): ∀(l cur:List UInt8),∀x∈oT c cur l,x.length<=cur.length+l.length
 | [],cur,x,h=>by simp[oT] at h;subst h;simp
 | b::l,cur,x,h=>by
  rw[oT] at h
  split at h
  ·rcases aE h with rfl | h
   ·simp
   ·have:=sn c l [] x h;simp at this;simp;omega
  ·have:=sn c l _ x h;simp at this;simp;omega
theorem tg (c:UInt8) (l:List UInt8):c∉l\/ ∃a r,l=a++c::r/\c∉a:=by
 by_cases h:c∈l
 ·obtain ⟨a,r,e,k⟩:=List.eq_append_cons_of_mem h
  exact .inr ⟨a,r,e,k⟩
 ·exact .inl h
theorem Em (s:ByteArray):mkB s.data.toList=s:=by simp[mkB]
theorem Xs (s:ByteArray): ∃l:List UInt8,s=mkB l:=⟨_,(Em s).symm⟩
theorem xl {a b:List UInt8} (h:mkB a=mkB b):a=b:=by rw[<-eW a,h,eW]
theorem slB {l:List UInt8} {a b:Nat} (h1:a<=b) (h2:b<=l.length):qY (mkB l) (a:Int) (b:Int)=some (mkB ((l.take b).drop a)):=by
 unfold qY chk
 rw[bP,if_pos ⟨by omega,by omega,by omega⟩,aa]
 congr 1
 refine ByteArray.ext ?_
 simp[mkB,List.drop_take]
theorem atB {l:List UInt8} {i:Nat} (h:i<l.length):jG (mkB l) (i:Int)=some ((l[i].toNat:Nat):Int):=by
 rw[y7 (by rw[bP];exact h)]
 simp[mkB]
theorem we (l:List UInt8) (c:UInt8) (hl:l.length<=1000000):gX (mkB l) ((c.toNat:Nat):Int)=some ((oT c [] l).map mkB):=by
 obtain ⟨s,e,fr,done,rfl,h1,h2,h3⟩:=nP (f:=om (mkB l) ((c.toNat:Nat):Int)) (fun i s=> ∃(fr:Nat) (done:List (List UInt8)),s=(done.map mkB,(fr:Int),(i:Int))/\fr<=i/\done.length<=i/\done++oT c ((l.take i).drop fr) (l.drop i)=oT c [] l) l.length (fun i s hi hI=>by
  obtain ⟨fr,done,rfl,h1,h2,h3⟩:=hI
  unfold om
  simp only[]
  rw[if_pos (decide_eq_true (by rw[bP];omega)),atB hi]
  simp only[aa]
  rw[List.drop_eq_getElem_cons hi,oT] at h3
  by_cases k:l[i] =c
  ·rw[if_pos k] at h3
   rw[if_pos (by rw[k];simp),slB h1 (by omega)]
   simp only[aa]
   have hx:cz 16 (done.map mkB) [mkB ((l.take i).drop fr)] =some (done.map mkB++ [mkB ((l.take i).drop fr)]):=aL (by rw[List.length_map];simp only[ak,aG];omega)
   rw[hx]
   simp only[aa]
   refine ⟨_,rfl,i+1,done++ [(l.take i).drop fr],?_,aC _,by simp;omega,?_⟩
   ·rw[aO,List.map_cons,List.map_nil,af (by omega)]
   ·rw[<-h3,ai,List.drop_of_length_le (l:=l.take (i+1)) (by rw[aA];omega)];rfl
  ·rw[if_neg k] at h3
   rw[if_neg (fun e=>k (UInt8.toNat_inj.1 (by have:=eq_of_beq e;omega)))]
   simp only[aa]
   refine ⟨_,rfl,fr,done,?_,by omega,by omega,?_⟩
   ·rw[af (by omega)]
   ·rw[<-h3,List.take_succ_eq_append_getElem hi,List.drop_append_of_le_length (by rw[aA];omega)]) (fun s hI=>by
  obtain ⟨fr,done,rfl,h1,h2,h3⟩:=hI
  unfold om
  simp only[]
  rw[if_neg (by rw[bP];simp)]) (s:=(([] :List ByteArray),0,0)) ⟨0,[],rfl,aC _,aC _,by simp⟩ (dC _ (by omega))
 unfold gX
 rw[aw e,bP]
 simp only[]
 rw[slB h1 (aC _)]
 simp only[aa]
 have hx:cz 16 (done.map mkB) [mkB ((l.take l.length).drop fr)] =some (done.map mkB++ [mkB ((l.take l.length).drop fr)]):=aL (by rw[List.length_map];simp only[ak,aG];omega)
 rw[hx,<-h3,List.drop_length,oT]
 simp
theorem En {c:UInt8} : ∀ {l:List UInt8},c∉l->Lib.index l [c] = -1
 | [],_=>rfl
 | b::l,h=>by
  have hb:c≠b:=fun e=>h (by simp[e])
  have k:([c] :List UInt8).isPrefixOf (b::l)=false:=by simp[List.isPrefixOf,hb]
  rw[Lib.index,k,En fun k=>h (bj _ k)];rfl
theorem Eo {c:UInt8} : ∀ {a r:List UInt8},c∉a->Lib.index (a++c::r) [c] =(a.length:Int)
 | [],r,_=>by simp[Lib.index,List.isPrefixOf]
 | b::a,r,h=>by
  have hb:c≠b:=fun e=>h (by simp[e])
  have k:([c] :List UInt8).isPrefixOf (b::(a++c::r))=false:=by simp[List.isPrefixOf,hb]
  rw[List.cons_append,Lib.index,k,Eo fun k=>h (bj _ k)]
  rw[if_neg (by decide),if_neg (by rw[beq_iff_eq];omega),ak];omega
theorem GK (c:UInt8): ∀(n:Nat) (l:List UInt8),l.length<=n->Lib.splitK [c] 0 (Lib.count l [c]) l=oT c [] l
 | n,l,h=>by
  rcases tg c l with k | ⟨a,r,rfl,k⟩
  ·have e:=En k
   rw[Lib.count_miss e,nR k];rfl
  ·have e:=Eo (r:=r) k
   have hd:(a++c::r).drop (a.length+1)=r:=by
    rw[<-List.drop_drop,List.drop_left];rfl
   rw[Lib.count_hit (by simp) e,qo k,Nat.add_comm 1,Lib.splitK,e,if_neg (by rw[beq_iff_eq];omega)]
   show List.take (a.length+0) _::Lib.splitK [c] 0 (Lib.count ((a++c::r).drop (a.length+1)) [c]) ((a++c::r).drop (a.length+1))=_
   rw[hd,Nat.add_zero,List.take_left]
   cases n with
   | zero=>simp at h
   | succ n=>rw[GK c n r (by simp at h;omega)];rfl
theorem Ep (l:List UInt8) (c:UInt8) (hl:l.length<=1000000):cF (mkB l) (mkB [c])=some ((oT c [] l).map mkB):=by
 unfold cF R.JM chk
 rw[bP,bP,if_pos ⟨by omega,by simp⟩,aa]
 congr 1
 have e:=Lib.splitB_data (mkB [c]) 0 (Lib.countB (mkB l) (mkB [c])) (mkB l)
 rw[eW,eW] at e
 have e2:Lib.countB (mkB l) (mkB [c])=Lib.count l [c]:=by unfold Lib.countB;rw[eW,eW]
 rw[e2,GK c l.length l (aC _)] at e
 rw[e2,<-e,List.map_map]
 conv=>lhs;rw[<-List.map_id (Lib.splitB _ _ _ _)]
 exact List.map_congr_left fun x _=>(Em x).symm
theorem RR {l:List UInt8} {c:UInt8} (hl:l.length<=1000000) (h:c∉l):cS (mkB l) (mkB [c])=some (mkB l,mkB [],false):=by
 unfold cS R.Xh chk
 rw[bP,if_pos (by omega),aa,eW,eW]
 have:Lib.cut l [c] =(l,[],false):=by unfold Lib.cut;rw[En h,if_neg (by decide)]
 rw[this];rfl
theorem Tm {a r:List UInt8} {c:UInt8} (hl:(a++c::r).length<=1000000) (h:c∉a):cS (mkB (a++c::r)) (mkB [c])=some (mkB a,mkB r,true):=by
 unfold cS R.Xh chk
 rw[bP,if_pos (by omega),aa,eW,eW]
 have:Lib.cut (a++c::r) [c] =(a,r,true):=by
  unfold Lib.cut
  rw[Eo h,if_pos (by omega)]
  have hd:(a++c::r).drop (a.length+1)=r:=by
   rw[<-List.drop_drop,List.drop_left];rfl
  show (List.take a.length _,List.drop (a.length+1) _,true)=_
  rw[List.take_left,hd]
 rw[this];rfl
theorem JX {c:UInt8} : ∀ {l:List UInt8},c∉l->Lib.indexByte l c= -1
 | [],_=>rfl
 | b::l,h=>by
  have hb:b≠c:=fun e=>h (by simp[e])
  rw[Lib.indexByte,if_neg (by simpa using hb),JX fun k=>h (bj _ k)];rfl
theorem Tn {c:UInt8} : ∀ {a r:List UInt8},c∉a->Lib.indexByte (a++c::r) c=(a.length:Int)
 | [],r,_=>by simp[Lib.indexByte]
 | b::a,r,h=>by
  have hb:b≠c:=fun e=>h (by simp[e])
  rw[List.cons_append,Lib.indexByte,if_neg (by simpa using hb),Tn fun k=>h (bj _ k),if_neg (by rw[beq_iff_eq];omega),ak];omega
end D
end Go.Proofs.YtilionjghdjbdaaGreatDoor
