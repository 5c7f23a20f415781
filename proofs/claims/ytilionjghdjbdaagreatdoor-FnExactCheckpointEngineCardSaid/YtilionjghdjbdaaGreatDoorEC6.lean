/- FnExactCheckpointEngine: for every input the law returns true and changes nothing that was there. Part 7 of 9. -/
import Derived.Test.YtilionjghdjbdaaGreatDoorEC5
set_option linter.unusedVariables false
set_option linter.unusedSimpArgs false
set_option linter.unnecessarySimpa false
set_option linter.unusedSectionVars false
set_option maxRecDepth 1000000
namespace Go.Proofs.YtilionjghdjbdaaGreatDoor
namespace R
open Go.RowKit
open D
abbrev y3:Ty:=.int .i64
abbrev xt:Ty:=.prod y3 (.prod y3 (.prod y3 y3))
abbrev t274:Ty:=.tree 302 274 xt
abbrev GO:Ty:=.prod y3 (.prod y3 (.prod y3 y3))
abbrev Vi:Ty:=.sl 168 GO
abbrev y91:Ty:=.sl 3 y3
abbrev DF:Ty:=.prod y91 Vi
abbrev Ym:Ty:=.prod y3 (.prod y3 y3)
abbrev y59:Ty:=.sl 161 xt
abbrev y61:Ty:=.wr y59
abbrev zU:Ty:=.prod y3 (.prod y61 y3)
abbrev Yn:Ty:=.prod y3 (.prod y3 (.prod y3 y3))
abbrev y4:Ty:=.bool
abbrev Y5:Ty:=.prod y4 GO
abbrev XM:Ty:=.prod y3 (.prod y3 (.prod y3 y3))
abbrev Y6:Ty:=.prod y4 XM
abbrev XN:Ty:=.sl 172 XM
abbrev XO:Ty:=.prod y91 XN
abbrev FW:Ty:=.sl 4 y4
abbrev KQ:Ty:=.sl 91 y91
abbrev XP:Ty:=.prod y3 (.prod FW KQ)
abbrev y54:Ty:=.sl 163 Yn
abbrev y56:Ty:=.wr y54
abbrev XQ:Ty:=.prod y3 (.prod y56 y3)
abbrev k8:Ty:=.prod y3 (.prod FW KQ)
abbrev y9:Ty:=.str
abbrev Yo:Ty:=.sl 9 y9
abbrev y22:Ty:=.sl 179 XO
abbrev y5:Ty:=.int .u8
abbrev Zn:Ty:=.sl 5 y5
abbrev JE:Ty:=.prod y91 (.prod y3 (.prod y3 (.prod y91 y4)))
abbrev y24:Ty:=.prod y3 y22
abbrev y25:Ty:=.sl 184 XP
abbrev y26:Ty:=.sl 187 XQ
abbrev Y7:Ty:=.prod y4 (.prod y3 y3)
abbrev Y8:Ty:=.prod y3 (.prod y3 y4)
abbrev Yp:Ty:=.fro t274
abbrev y28:Ty:=.prod y25 y26
abbrev y29:Ty:=.sl 133 Ym
abbrev WX:Ty:=.int .u64
abbrev XR:Ty:=.sl 274 Yp
abbrev Zo:Ty:=.prod xt XR
abbrev y31:Ty:=.prod y24 (.prod y28 (.prod y29 y9))
abbrev WY:Ty:=.int .u64
abbrev y34:Ty:=.sl 126 DF
abbrev WZ:Ty:=.int .u32
abbrev y36:Ty:=.prod y3 y34
abbrev y37:Ty:=.sl 189 k8
abbrev y38:Ty:=.sl 137 zU
abbrev y40:Ty:=.prod y37 y38
abbrev y88:Ty:=.prod y3 (.prod y3 y3)
abbrev y41:Ty:=.sl 88 y88
abbrev y43:Ty:=.prod y36 (.prod y40 (.prod y41 y9))
abbrev y66:Ty:=.sl 174 Y6
abbrev y68:Ty:=.wr y66
abbrev y71:Ty:=.sl 170 Y5
abbrev y73:Ty:=.wr y71
abbrev y92:Ty:=.sl 73 y73
theorem ti3:TI Tryz.prog 3 false 1:=⟨⟨_,Tryz.underlying3,rfl⟩,by kernel_rfl⟩
theorem W0 (a0:Int) (a1:Int) (a2:Int) (a3:Int) (b0:Int) (b1:Int) (b2:Int) (b3:Int) (w:World):EqT Tryz.prog 161 (.agg #[.int .i64 a0,.int .i64 a1,.int .i64 a2,.int .i64 a3]) (.agg #[.int .i64 b0,.int .i64 b1,.int .i64 b2,.int .i64 b3]) ((a0==b0)&&((a1==b1)&&((a2==b2)&&((a3==b3)&&true)))) w:=Sc w Tryz.underlying161 (by kernel_rfl) (by kernel_rfl) (n8 rfl (my ti3 rfl) (my ti3 rfl) (run_equalIn_int w 9998 3 _ _ _ _ Tryz.underlying3) (n8 rfl (my ti3 rfl) (my ti3 rfl) (run_equalIn_int w 9998 3 _ _ _ _ Tryz.underlying3) (n8 rfl (my ti3 rfl) (my ti3 rfl) (run_equalIn_int w 9998 3 _ _ _ _ Tryz.underlying3) (n8 rfl (my ti3 rfl) (my ti3 rfl) (run_equalIn_int w 9998 3 _ _ _ _ Tryz.underlying3) (LS w)))))
theorem W1 (a0:Int) (a1:Int) (a2:Int) (a3:Int) (b0:Int) (b1:Int) (b2:Int) (b3:Int) (w:World):EqT Tryz.prog 168 (.agg #[.int .i64 a0,.int .i64 a1,.int .i64 a2,.int .i64 a3]) (.agg #[.int .i64 b0,.int .i64 b1,.int .i64 b2,.int .i64 b3]) ((a0==b0)&&((a1==b1)&&((a2==b2)&&((a3==b3)&&true)))) w:=Sc w Tryz.underlying168 (by kernel_rfl) (by kernel_rfl) (n8 rfl (my ti3 rfl) (my ti3 rfl) (run_equalIn_int w 9998 3 _ _ _ _ Tryz.underlying3) (n8 rfl (my ti3 rfl) (my ti3 rfl) (run_equalIn_int w 9998 3 _ _ _ _ Tryz.underlying3) (n8 rfl (my ti3 rfl) (my ti3 rfl) (run_equalIn_int w 9998 3 _ _ _ _ Tryz.underlying3) (n8 rfl (my ti3 rfl) (my ti3 rfl) (run_equalIn_int w 9998 3 _ _ _ _ Tryz.underlying3) (LS w)))))
theorem mz3 (w:World):(zeroValue 3).run Tryz.prog w= .ok (.int .i64 0) w:=by kernel_rfl
theorem kk3:KeyOk Tryz.prog 3 (fun n:Int=>Value.int .i64 n) T2 iOk:=Wd Tryz.underlying3
theorem ek3:EltOk Tryz.prog 3 (fun n:Int=>Value.int .i64 n) T2 iOk 0:=We Tryz.underlying3 mz3
def tt:TT:=[(3,⟨false,1,none,y3,[],some 8,none,false,none,none,some (some .i64),false,none⟩),
 (4,⟨false,1,none,y4,[],some 1,none,true,none,none,none,false,none⟩),
 (5,⟨false,1,none,y5,[],some 1,none,false,none,none,some (some .u8),false,none⟩),
 (9,⟨false,1,none,y9,[],some 16,none,false,none,none,some none,false,none⟩),
 (22,⟨false,1,some 179,y22,[],some 24,none,false,none,none,none,false,none⟩),
 (24,⟨true,2,none,y24,[(0,0),(1,0)],some 32,some [(0,1),(1,1)],false,none,none,none,false,none⟩),
 (25,⟨false,1,some 184,y25,[],some 24,none,false,none,none,none,false,none⟩),
 (26,⟨false,1,some 187,y26,[],some 24,none,false,none,none,none,false,none⟩),
 (28,⟨true,2,none,y28,[(0,0),(1,0)],some 48,some [(0,1),(1,1)],false,none,none,none,false,none⟩),
 (29,⟨false,1,some 133,y29,[],some 24,none,false,none,none,none,false,none⟩),
 (31,⟨true,6,none,y31,[(0,1),(2,1),(4,0),(5,0)],some 120,some [(0,2),(2,2),(4,1),(5,1)],false,none,none,none,false,none⟩),
 (34,⟨false,1,some 126,y34,[],some 24,none,false,none,none,none,false,none⟩),
 (36,⟨true,2,none,y36,[(0,0),(1,0)],some 32,some [(0,1),(1,1)],false,none,none,none,false,none⟩),
 (37,⟨false,1,some 189,y37,[],some 24,none,false,none,none,none,false,none⟩),
 (38,⟨false,1,some 137,y38,[],some 24,none,false,none,none,none,false,none⟩),
 (40,⟨true,2,none,y40,[(0,0),(1,0)],some 48,some [(0,1),(1,1)],false,none,none,none,false,none⟩),
 (41,⟨false,1,some 88,y41,[],some 24,none,false,none,none,none,false,none⟩),
 (43,⟨true,6,none,y43,[(0,1),(2,1),(4,0),(5,0)],some 120,some [(0,2),(2,2),(4,1),(5,1)],false,none,none,none,false,none⟩),
 (54,⟨false,1,some 163,y54,[],some 24,none,false,none,none,none,false,none⟩),
 (56,⟨true,1,none,y56,[(0,0)],some 24,some [(0,1)],false,none,none,none,false,none⟩),
 (59,⟨false,1,some 161,y59,[],some 24,none,false,none,none,none,false,none⟩),
 (61,⟨true,1,none,y61,[(0,0)],some 24,some [(0,1)],false,none,none,none,false,none⟩),
 (66,⟨false,1,some 174,y66,[],some 24,none,false,none,none,none,false,none⟩),
 (68,⟨true,1,none,y68,[(0,0)],some 24,some [(0,1)],false,none,none,none,false,none⟩),
 (71,⟨false,1,some 170,y71,[],some 24,none,false,none,none,none,false,none⟩),
 (73,⟨true,1,none,y73,[(0,0)],some 24,some [(0,1)],false,none,none,none,false,none⟩),
 (88,⟨true,3,none,y88,[(0,0),(1,0),(2,0)],some 24,some [(0,1),(1,1),(2,1)],false,none,none,none,false,none⟩),
 (91,⟨false,1,some 3,y91,[],some 24,none,false,none,none,none,false,none⟩),
 (92,⟨false,1,some 73,y92,[],some 24,none,false,none,none,none,false,none⟩),
 (108,⟨false,1,none,.bool,[],none,none,false,none,none,none,true,none⟩),
 (124,⟨false,1,some 168,Vi,[],some 24,none,false,none,none,none,false,none⟩),
 (126,⟨true,2,none,DF,[(0,0),(1,0)],some 48,some [(0,1),(1,1)],false,none,none,none,false,none⟩),
 (133,⟨true,3,none,Ym,[(0,0),(1,0),(2,0)],some 24,some [(0,1),(1,1),(2,1)],false,none,none,none,false,none⟩),
 (134,⟨false,1,none,.bool,[],none,none,false,none,none,none,true,none⟩),
 (137,⟨true,3,none,zU,[(0,0),(1,0),(2,0)],some 40,some [(0,1),(1,1),(2,1)],false,none,none,none,false,none⟩),
 (138,⟨false,1,none,.bool,[],none,none,false,none,none,none,true,none⟩),
 (161,⟨true,4,none,xt,[(0,0),(1,0),(2,0),(3,0)],some 32,some [(0,1),(1,1),(2,1),(3,1)],false,some [some .i64,some .i64,some .i64,some .i64],none,none,false,none⟩),
 (163,⟨true,4,none,Yn,[(0,0),(1,0),(2,0),(3,0)],some 32,some [(0,1),(1,1),(2,1),(3,1)],false,none,none,none,false,none⟩),
 (168,⟨true,4,none,GO,[(0,0),(1,0),(2,0),(3,0)],some 32,some [(0,1),(1,1),(2,1),(3,1)],false,some [some .i64,some .i64,some .i64,some .i64],none,none,false,none⟩),
 (170,⟨true,5,none,Y5,[(0,0),(1,3)],some 40,some [(0,1),(1,4)],false,none,none,none,false,none⟩),
 (172,⟨true,4,none,XM,[(0,0),(1,0),(2,0),(3,0)],some 32,some [(0,1),(1,1),(2,1),(3,1)],false,none,none,none,false,none⟩),
 (174,⟨true,5,none,Y6,[(0,0),(1,3)],some 40,some [(0,1),(1,4)],false,none,none,none,false,none⟩),
 (177,⟨false,1,some 172,XN,[],some 24,none,false,none,none,none,false,none⟩),
 (179,⟨true,2,none,XO,[(0,0),(1,0)],some 48,some [(0,1),(1,1)],false,none,none,none,false,none⟩),
 (181,⟨false,1,some 4,FW,[],some 24,none,false,none,none,none,false,none⟩),
 (182,⟨false,1,some 91,KQ,[],some 24,none,false,none,none,none,false,none⟩),
 (184,⟨true,3,none,XP,[(0,0),(1,0),(2,0)],some 56,some [(0,1),(1,1),(2,1)],false,none,none,none,false,none⟩),
 (187,⟨true,3,none,XQ,[(0,0),(1,0),(2,0)],some 40,some [(0,1),(1,1),(2,1)],false,none,none,none,false,none⟩),
 (189,⟨true,3,none,k8,[(0,0),(1,0),(2,0)],some 56,some [(0,1),(1,1),(2,1)],false,none,none,none,false,none⟩),
 (194,⟨false,1,none,.bool,[],none,none,false,none,none,none,true,none⟩),
 (200,⟨false,1,none,.bool,[],none,none,false,none,none,none,true,none⟩),
 (204,⟨false,1,none,.bool,[],none,none,false,none,none,none,true,none⟩),
 (205,⟨false,1,some 9,Yo,[],some 24,none,false,none,none,none,false,none⟩),
 (222,⟨false,1,some 5,Zn,[],some 24,none,false,none,none,none,false,none⟩),
 (230,⟨true,5,none,JE,[(0,0),(1,0),(2,0),(3,0),(4,0)],some 72,some [(0,1),(1,1),(2,1),(3,1),(4,1)],false,none,none,none,false,none⟩),
 (263,⟨true,3,none,Y7,[(0,0),(1,0),(2,0)],some 24,some [(0,1),(1,1),(2,1)],false,none,none,none,false,none⟩),
 (272,⟨true,3,none,Y8,[(0,0),(1,0),(2,0)],some 24,some [(0,1),(1,1),(2,1)],false,none,none,none,false,none⟩),
 (274,⟨false,1,none,Yp,[],some 8,none,false,none,none,none,false,some 302⟩),
 (277,⟨false,1,none,.bool,[],none,none,false,none,none,none,true,none⟩),
 (279,⟨false,1,none,.bool,[],none,none,false,none,none,none,true,none⟩),
 (290,⟨false,1,none,.bool,[],none,none,false,none,none,none,true,none⟩),
 (295,⟨false,1,none,WX,[],some 8,none,false,none,none,some (some .u64),false,none⟩),
 (300,⟨false,1,some 274,XR,[],some 24,none,false,none,none,none,false,none⟩),
 (302,⟨true,5,none,Zo,[(0,3),(4,0)],some 56,some [(0,4),(4,1)],false,none,none,none,false,none⟩),
 (306,⟨false,1,none,.bool,[],none,none,false,none,some ⟨3,3,.int,.int⟩,none,false,none⟩),
 (308,⟨false,1,none,.bool,[],none,none,false,none,none,none,true,none⟩),
 (321,⟨false,1,none,WY,[],some 8,none,false,none,none,some (some .u64),false,none⟩),
 (344,⟨false,1,none,WZ,[],some 4,none,false,none,none,some (some .u32),false,none⟩),
 (351,⟨false,1,none,.bool,[],none,none,false,none,none,none,true,none⟩)]
theorem Vj:TTok Tryz.prog tt:=⟨tX (n:=1) (z:=.int .i64 0) ⟨⟨_,Tryz.underlying3,rfl⟩,by kernel_rfl⟩ rfl (by unfold TZ;kernel_rfl) rfl (bp rfl) (fun h=>by cases h) (fun k h=>by obtain rfl:=ae h;exact Tryz.underlying3),
 tX (n:=1) (z:=.bool false) ⟨⟨_,Tryz.underlying4,rfl⟩,by kernel_rfl⟩ rfl (by unfold TZ;kernel_rfl) rfl (bp rfl) (fun h=>Tryz.underlying4) (fun k h=>by cases h),
 tX (n:=1) (z:=.int .u8 0) ⟨⟨_,Tryz.underlying5,rfl⟩,by kernel_rfl⟩ rfl (by unfold TZ;kernel_rfl) rfl (bp rfl) (fun h=>by cases h) (fun k h=>by obtain rfl:=ae h;exact Tryz.underlying5),
 tX (n:=1) (z:=.string ⟨#[]⟩) ⟨⟨_,Tryz.underlying9,rfl⟩,by kernel_rfl⟩ rfl (by unfold TZ;kernel_rfl) rfl (bp rfl) (fun h=>by cases h) (fun k h=>by obtain rfl:=ae h;exact Tryz.underlying9),
 oM ⟨⟨_,Tryz.underlying22,rfl⟩,by kernel_rfl⟩ Tryz.underlying22 (by unfold TZ;kernel_rfl),
 kP (z:=.agg #[.int .i64 0,.slice none 0 0]) ⟨⟨_,Tryz.underlying24,rfl⟩,by kernel_rfl⟩ rfl ⟨⟨_,_,Tryz.underlying24,rfl,rfl,by kernel_rfl⟩,⟨_,_,Tryz.underlying24,rfl,rfl,by kernel_rfl⟩,trivial⟩ (by unfold TZ;kernel_rfl) rfl (bp rfl) ⟨_,Tryz.underlying24,by kernel_rfl⟩ (fun ks h=>by cases h),
 oM ⟨⟨_,Tryz.underlying25,rfl⟩,by kernel_rfl⟩ Tryz.underlying25 (by unfold TZ;kernel_rfl),
 oM ⟨⟨_,Tryz.underlying26,rfl⟩,by kernel_rfl⟩ Tryz.underlying26 (by unfold TZ;kernel_rfl),
 kP (z:=.agg #[.slice none 0 0,.slice none 0 0]) ⟨⟨_,Tryz.underlying28,rfl⟩,by kernel_rfl⟩ rfl ⟨⟨_,_,Tryz.underlying28,rfl,rfl,by kernel_rfl⟩,⟨_,_,Tryz.underlying28,rfl,rfl,by kernel_rfl⟩,trivial⟩ (by unfold TZ;kernel_rfl) rfl (bp rfl) ⟨_,Tryz.underlying28,by kernel_rfl⟩ (fun ks h=>by cases h),
 oM ⟨⟨_,Tryz.underlying29,rfl⟩,by kernel_rfl⟩ Tryz.underlying29 (by unfold TZ;kernel_rfl),
 kP (z:=.agg #[.int .i64 0,.slice none 0 0,.slice none 0 0,.slice none 0 0,.slice none 0 0,.string ⟨#[]⟩]) ⟨⟨_,Tryz.underlying31,rfl⟩,by kernel_rfl⟩ rfl ⟨⟨_,_,Tryz.underlying31,rfl,rfl,by kernel_rfl⟩,⟨_,_,Tryz.underlying31,rfl,rfl,by kernel_rfl⟩,⟨_,_,Tryz.underlying31,rfl,rfl,by kernel_rfl⟩,⟨_,_,Tryz.underlying31,rfl,rfl,by kernel_rfl⟩,trivial⟩ (by unfold TZ;kernel_rfl) rfl (bp rfl) ⟨_,Tryz.underlying31,by kernel_rfl⟩ (fun ks h=>by cases h),
 oM ⟨⟨_,Tryz.underlying34,rfl⟩,by kernel_rfl⟩ Tryz.underlying34 (by unfold TZ;kernel_rfl),
 kP (z:=.agg #[.int .i64 0,.slice none 0 0]) ⟨⟨_,Tryz.underlying36,rfl⟩,by kernel_rfl⟩ rfl ⟨⟨_,_,Tryz.underlying36,rfl,rfl,by kernel_rfl⟩,⟨_,_,Tryz.underlying36,rfl,rfl,by kernel_rfl⟩,trivial⟩ (by unfold TZ;kernel_rfl) rfl (bp rfl) ⟨_,Tryz.underlying36,by kernel_rfl⟩ (fun ks h=>by cases h),
 oM ⟨⟨_,Tryz.underlying37,rfl⟩,by kernel_rfl⟩ Tryz.underlying37 (by unfold TZ;kernel_rfl),
 oM ⟨⟨_,Tryz.underlying38,rfl⟩,by kernel_rfl⟩ Tryz.underlying38 (by unfold TZ;kernel_rfl),
 kP (z:=.agg #[.slice none 0 0,.slice none 0 0]) ⟨⟨_,Tryz.underlying40,rfl⟩,by kernel_rfl⟩ rfl ⟨⟨_,_,Tryz.underlying40,rfl,rfl,by kernel_rfl⟩,⟨_,_,Tryz.underlying40,rfl,rfl,by kernel_rfl⟩,trivial⟩ (by unfold TZ;kernel_rfl) rfl (bp rfl) ⟨_,Tryz.underlying40,by kernel_rfl⟩ (fun ks h=>by cases h),
 oM ⟨⟨_,Tryz.underlying41,rfl⟩,by kernel_rfl⟩ Tryz.underlying41 (by unfold TZ;kernel_rfl),
 kP (z:=.agg #[.int .i64 0,.slice none 0 0,.slice none 0 0,.slice none 0 0,.slice none 0 0,.string ⟨#[]⟩]) ⟨⟨_,Tryz.underlying43,rfl⟩,by kernel_rfl⟩ rfl ⟨⟨_,_,Tryz.underlying43,rfl,rfl,by kernel_rfl⟩,⟨_,_,Tryz.underlying43,rfl,rfl,by kernel_rfl⟩,⟨_,_,Tryz.underlying43,rfl,rfl,by kernel_rfl⟩,⟨_,_,Tryz.underlying43,rfl,rfl,by kernel_rfl⟩,trivial⟩ (by unfold TZ;kernel_rfl) rfl (bp rfl) ⟨_,Tryz.underlying43,by kernel_rfl⟩ (fun ks h=>by cases h),
 oM ⟨⟨_,Tryz.underlying54,rfl⟩,by kernel_rfl⟩ Tryz.underlying54 (by unfold TZ;kernel_rfl),
 kP (z:=.agg #[.slice none 0 0]) ⟨⟨_,Tryz.underlying56,rfl⟩,by kernel_rfl⟩ rfl ⟨⟨_,_,Tryz.underlying56,rfl,rfl,by kernel_rfl⟩,trivial⟩ (by unfold TZ;kernel_rfl) rfl (bp rfl) ⟨_,Tryz.underlying56,by kernel_rfl⟩ (fun ks h=>by cases h),
 oM ⟨⟨_,Tryz.underlying59,rfl⟩,by kernel_rfl⟩ Tryz.underlying59 (by unfold TZ;kernel_rfl),
 kP (z:=.agg #[.slice none 0 0]) ⟨⟨_,Tryz.underlying61,rfl⟩,by kernel_rfl⟩ rfl ⟨⟨_,_,Tryz.underlying61,rfl,rfl,by kernel_rfl⟩,trivial⟩ (by unfold TZ;kernel_rfl) rfl (bp rfl) ⟨_,Tryz.underlying61,by kernel_rfl⟩ (fun ks h=>by cases h),
 oM ⟨⟨_,Tryz.underlying66,rfl⟩,by kernel_rfl⟩ Tryz.underlying66 (by unfold TZ;kernel_rfl),
 kP (z:=.agg #[.slice none 0 0]) ⟨⟨_,Tryz.underlying68,rfl⟩,by kernel_rfl⟩ rfl ⟨⟨_,_,Tryz.underlying68,rfl,rfl,by kernel_rfl⟩,trivial⟩ (by unfold TZ;kernel_rfl) rfl (bp rfl) ⟨_,Tryz.underlying68,by kernel_rfl⟩ (fun ks h=>by cases h),
 oM ⟨⟨_,Tryz.underlying71,rfl⟩,by kernel_rfl⟩ Tryz.underlying71 (by unfold TZ;kernel_rfl),
 kP (z:=.agg #[.slice none 0 0]) ⟨⟨_,Tryz.underlying73,rfl⟩,by kernel_rfl⟩ rfl ⟨⟨_,_,Tryz.underlying73,rfl,rfl,by kernel_rfl⟩,trivial⟩ (by unfold TZ;kernel_rfl) rfl (bp rfl) ⟨_,Tryz.underlying73,by kernel_rfl⟩ (fun ks h=>by cases h),
 kP (z:=.agg #[.int .i64 0,.int .i64 0,.int .i64 0]) ⟨⟨_,Tryz.underlying88,rfl⟩,by kernel_rfl⟩ rfl ⟨⟨_,_,Tryz.underlying88,rfl,rfl,by kernel_rfl⟩,⟨_,_,Tryz.underlying88,rfl,rfl,by kernel_rfl⟩,⟨_,_,Tryz.underlying88,rfl,rfl,by kernel_rfl⟩,trivial⟩ (by unfold TZ;kernel_rfl) rfl (bp rfl) ⟨_,Tryz.underlying88,by kernel_rfl⟩ (fun ks h=>by cases h),
 oM ⟨⟨_,Tryz.underlying91,rfl⟩,by kernel_rfl⟩ Tryz.underlying91 (by unfold TZ;kernel_rfl),
 oM ⟨⟨_,Tryz.underlying92,rfl⟩,by kernel_rfl⟩ Tryz.underlying92 (by unfold TZ;kernel_rfl),
 zS (ty:=.bool) (b:=8) ⟨⟨_,Tryz.underlying108,rfl⟩,by kernel_rfl⟩ rfl (by unfold TZ;kernel_rfl),
 oM ⟨⟨_,Tryz.underlying124,rfl⟩,by kernel_rfl⟩ Tryz.underlying124 (by unfold TZ;kernel_rfl),
 kP (z:=.agg #[.slice none 0 0,.slice none 0 0]) ⟨⟨_,Tryz.underlying126,rfl⟩,by kernel_rfl⟩ rfl ⟨⟨_,_,Tryz.underlying126,rfl,rfl,by kernel_rfl⟩,⟨_,_,Tryz.underlying126,rfl,rfl,by kernel_rfl⟩,trivial⟩ (by unfold TZ;kernel_rfl) rfl (bp rfl) ⟨_,Tryz.underlying126,by kernel_rfl⟩ (fun ks h=>by cases h),
 kP (z:=.agg #[.int .i64 0,.int .i64 0,.int .i64 0]) ⟨⟨_,Tryz.underlying133,rfl⟩,by kernel_rfl⟩ rfl ⟨⟨_,_,Tryz.underlying133,rfl,rfl,by kernel_rfl⟩,⟨_,_,Tryz.underlying133,rfl,rfl,by kernel_rfl⟩,⟨_,_,Tryz.underlying133,rfl,rfl,by kernel_rfl⟩,trivial⟩ (by unfold TZ;kernel_rfl) rfl (bp rfl) ⟨_,Tryz.underlying133,by kernel_rfl⟩ (fun ks h=>by cases h),
 zS (ty:=.bool) (b:=8) ⟨⟨_,Tryz.underlying134,rfl⟩,by kernel_rfl⟩ rfl (by unfold TZ;kernel_rfl),
 kP (z:=.agg #[.int .i64 0,.slice none 0 0,.int .i64 0]) ⟨⟨_,Tryz.underlying137,rfl⟩,by kernel_rfl⟩ rfl ⟨⟨_,_,Tryz.underlying137,rfl,rfl,by kernel_rfl⟩,⟨_,_,Tryz.underlying137,rfl,rfl,by kernel_rfl⟩,⟨_,_,Tryz.underlying137,rfl,rfl,by kernel_rfl⟩,trivial⟩ (by unfold TZ;kernel_rfl) rfl (bp rfl) ⟨_,Tryz.underlying137,by kernel_rfl⟩ (fun ks h=>by cases h),
 zS (ty:=.bool) (b:=8) ⟨⟨_,Tryz.underlying138,rfl⟩,by kernel_rfl⟩ rfl (by unfold TZ;kernel_rfl),
 kP (z:=.agg #[.int .i64 0,.int .i64 0,.int .i64 0,.int .i64 0]) ⟨⟨_,Tryz.underlying161,rfl⟩,by kernel_rfl⟩ rfl ⟨⟨_,_,Tryz.underlying161,rfl,rfl,by kernel_rfl⟩,⟨_,_,Tryz.underlying161,rfl,rfl,by kernel_rfl⟩,⟨_,_,Tryz.underlying161,rfl,rfl,by kernel_rfl⟩,⟨_,_,Tryz.underlying161,rfl,rfl,by kernel_rfl⟩,trivial⟩ (by unfold TZ;kernel_rfl) rfl (bp rfl) ⟨_,Tryz.underlying161,by kernel_rfl⟩ (fun ks h=>by obtain rfl:=ae h;exact fun w a0 b0 a1 b1 a2 b2 a3 b3=>W0 a0 a1 a2 a3 b0 b1 b2 b3 w),
 kP (z:=.agg #[.int .i64 0,.int .i64 0,.int .i64 0,.int .i64 0]) ⟨⟨_,Tryz.underlying163,rfl⟩,by kernel_rfl⟩ rfl ⟨⟨_,_,Tryz.underlying163,rfl,rfl,by kernel_rfl⟩,⟨_,_,Tryz.underlying163,rfl,rfl,by kernel_rfl⟩,⟨_,_,Tryz.underlying163,rfl,rfl,by kernel_rfl⟩,⟨_,_,Tryz.underlying163,rfl,rfl,by kernel_rfl⟩,trivial⟩ (by unfold TZ;kernel_rfl) rfl (bp rfl) ⟨_,Tryz.underlying163,by kernel_rfl⟩ (fun ks h=>by cases h),
 kP (z:=.agg #[.int .i64 0,.int .i64 0,.int .i64 0,.int .i64 0]) ⟨⟨_,Tryz.underlying168,rfl⟩,by kernel_rfl⟩ rfl ⟨⟨_,_,Tryz.underlying168,rfl,rfl,by kernel_rfl⟩,⟨_,_,Tryz.underlying168,rfl,rfl,by kernel_rfl⟩,⟨_,_,Tryz.underlying168,rfl,rfl,by kernel_rfl⟩,⟨_,_,Tryz.underlying168,rfl,rfl,by kernel_rfl⟩,trivial⟩ (by unfold TZ;kernel_rfl) rfl (bp rfl) ⟨_,Tryz.underlying168,by kernel_rfl⟩ (fun ks h=>by obtain rfl:=ae h;exact fun w a0 b0 a1 b1 a2 b2 a3 b3=>W1 a0 a1 a2 a3 b0 b1 b2 b3 w),
 kP (z:=.agg #[.bool false,.int .i64 0,.int .i64 0,.int .i64 0,.int .i64 0]) ⟨⟨_,Tryz.underlying170,rfl⟩,by kernel_rfl⟩ rfl ⟨⟨_,_,Tryz.underlying170,rfl,rfl,by kernel_rfl⟩,⟨_,_,Tryz.underlying170,rfl,rfl,by kernel_rfl⟩,trivial⟩ (by unfold TZ;kernel_rfl) rfl (bp rfl) ⟨_,Tryz.underlying170,by kernel_rfl⟩ (fun ks h=>by cases h),
 kP (z:=.agg #[.int .i64 0,.int .i64 0,.int .i64 0,.int .i64 0]) ⟨⟨_,Tryz.underlying172,rfl⟩,by kernel_rfl⟩ rfl ⟨⟨_,_,Tryz.underlying172,rfl,rfl,by kernel_rfl⟩,⟨_,_,Tryz.underlying172,rfl,rfl,by kernel_rfl⟩,⟨_,_,Tryz.underlying172,rfl,rfl,by kernel_rfl⟩,⟨_,_,Tryz.underlying172,rfl,rfl,by kernel_rfl⟩,trivial⟩ (by unfold TZ;kernel_rfl) rfl (bp rfl) ⟨_,Tryz.underlying172,by kernel_rfl⟩ (fun ks h=>by cases h),
 kP (z:=.agg #[.bool false,.int .i64 0,.int .i64 0,.int .i64 0,.int .i64 0]) ⟨⟨_,Tryz.underlying174,rfl⟩,by kernel_rfl⟩ rfl ⟨⟨_,_,Tryz.underlying174,rfl,rfl,by kernel_rfl⟩,⟨_,_,Tryz.underlying174,rfl,rfl,by kernel_rfl⟩,trivial⟩ (by unfold TZ;kernel_rfl) rfl (bp rfl) ⟨_,Tryz.underlying174,by kernel_rfl⟩ (fun ks h=>by cases h),
 oM ⟨⟨_,Tryz.underlying177,rfl⟩,by kernel_rfl⟩ Tryz.underlying177 (by unfold TZ;kernel_rfl),
 kP (z:=.agg #[.slice none 0 0,.slice none 0 0]) ⟨⟨_,Tryz.underlying179,rfl⟩,by kernel_rfl⟩ rfl ⟨⟨_,_,Tryz.underlying179,rfl,rfl,by kernel_rfl⟩,⟨_,_,Tryz.underlying179,rfl,rfl,by kernel_rfl⟩,trivial⟩ (by unfold TZ;kernel_rfl) rfl (bp rfl) ⟨_,Tryz.underlying179,by kernel_rfl⟩ (fun ks h=>by cases h),
 oM ⟨⟨_,Tryz.underlying181,rfl⟩,by kernel_rfl⟩ Tryz.underlying181 (by unfold TZ;kernel_rfl),
 oM ⟨⟨_,Tryz.underlying182,rfl⟩,by kernel_rfl⟩ Tryz.underlying182 (by unfold TZ;kernel_rfl),
 kP (z:=.agg #[.int .i64 0,.slice none 0 0,.slice none 0 0]) ⟨⟨_,Tryz.underlying184,rfl⟩,by kernel_rfl⟩ rfl ⟨⟨_,_,Tryz.underlying184,rfl,rfl,by kernel_rfl⟩,⟨_,_,Tryz.underlying184,rfl,rfl,by kernel_rfl⟩,⟨_,_,Tryz.underlying184,rfl,rfl,by kernel_rfl⟩,trivial⟩ (by unfold TZ;kernel_rfl) rfl (bp rfl) ⟨_,Tryz.underlying184,by kernel_rfl⟩ (fun ks h=>by cases h),
 kP (z:=.agg #[.int .i64 0,.slice none 0 0,.int .i64 0]) ⟨⟨_,Tryz.underlying187,rfl⟩,by kernel_rfl⟩ rfl ⟨⟨_,_,Tryz.underlying187,rfl,rfl,by kernel_rfl⟩,⟨_,_,Tryz.underlying187,rfl,rfl,by kernel_rfl⟩,⟨_,_,Tryz.underlying187,rfl,rfl,by kernel_rfl⟩,trivial⟩ (by unfold TZ;kernel_rfl) rfl (bp rfl) ⟨_,Tryz.underlying187,by kernel_rfl⟩ (fun ks h=>by cases h),
 kP (z:=.agg #[.int .i64 0,.slice none 0 0,.slice none 0 0]) ⟨⟨_,Tryz.underlying189,rfl⟩,by kernel_rfl⟩ rfl ⟨⟨_,_,Tryz.underlying189,rfl,rfl,by kernel_rfl⟩,⟨_,_,Tryz.underlying189,rfl,rfl,by kernel_rfl⟩,⟨_,_,Tryz.underlying189,rfl,rfl,by kernel_rfl⟩,trivial⟩ (by unfold TZ;kernel_rfl) rfl (bp rfl) ⟨_,Tryz.underlying189,by kernel_rfl⟩ (fun ks h=>by cases h),
 zS (ty:=.bool) (b:=8) ⟨⟨_,Tryz.underlying194,rfl⟩,by kernel_rfl⟩ rfl (by unfold TZ;kernel_rfl),
 zS (ty:=.bool) (b:=8) ⟨⟨_,Tryz.underlying200,rfl⟩,by kernel_rfl⟩ rfl (by unfold TZ;kernel_rfl),
 zS (ty:=.bool) (b:=8) ⟨⟨_,Tryz.underlying204,rfl⟩,by kernel_rfl⟩ rfl (by unfold TZ;kernel_rfl),
 oM ⟨⟨_,Tryz.underlying205,rfl⟩,by kernel_rfl⟩ Tryz.underlying205 (by unfold TZ;kernel_rfl),
 oM ⟨⟨_,Tryz.underlying222,rfl⟩,by kernel_rfl⟩ Tryz.underlying222 (by unfold TZ;kernel_rfl),
 kP (z:=.agg #[.slice none 0 0,.int .i64 0,.int .i64 0,.slice none 0 0,.bool false]) ⟨⟨_,Tryz.underlying230,rfl⟩,by kernel_rfl⟩ rfl ⟨⟨_,_,Tryz.underlying230,rfl,rfl,by kernel_rfl⟩,⟨_,_,Tryz.underlying230,rfl,rfl,by kernel_rfl⟩,⟨_,_,Tryz.underlying230,rfl,rfl,by kernel_rfl⟩,⟨_,_,Tryz.underlying230,rfl,rfl,by kernel_rfl⟩,⟨_,_,Tryz.underlying230,rfl,rfl,by kernel_rfl⟩,trivial⟩ (by unfold TZ;kernel_rfl) rfl (bp rfl) ⟨_,Tryz.underlying230,by kernel_rfl⟩ (fun ks h=>by cases h),
 kP (z:=.agg #[.bool false,.int .i64 0,.int .i64 0]) ⟨⟨_,Tryz.underlying263,rfl⟩,by kernel_rfl⟩ rfl ⟨⟨_,_,Tryz.underlying263,rfl,rfl,by kernel_rfl⟩,⟨_,_,Tryz.underlying263,rfl,rfl,by kernel_rfl⟩,⟨_,_,Tryz.underlying263,rfl,rfl,by kernel_rfl⟩,trivial⟩ (by unfold TZ;kernel_rfl) rfl (bp rfl) ⟨_,Tryz.underlying263,by kernel_rfl⟩ (fun ks h=>by cases h),
 kP (z:=.agg #[.int .i64 0,.int .i64 0,.bool false]) ⟨⟨_,Tryz.underlying272,rfl⟩,by kernel_rfl⟩ rfl ⟨⟨_,_,Tryz.underlying272,rfl,rfl,by kernel_rfl⟩,⟨_,_,Tryz.underlying272,rfl,rfl,by kernel_rfl⟩,⟨_,_,Tryz.underlying272,rfl,rfl,by kernel_rfl⟩,trivial⟩ (by unfold TZ;kernel_rfl) rfl (bp rfl) ⟨_,Tryz.underlying272,by kernel_rfl⟩ (fun ks h=>by cases h),
 Yl (e:=302) (E:=274) (u:=xt) ⟨⟨_,Tryz.underlying274,rfl⟩,by kernel_rfl⟩ Tryz.underlying274 (by unfold TZ;kernel_rfl),
 zS (ty:=.bool) (b:=8) ⟨⟨_,Tryz.underlying277,rfl⟩,by kernel_rfl⟩ rfl (by unfold TZ;kernel_rfl),
 zS (ty:=.bool) (b:=8) ⟨⟨_,Tryz.underlying279,rfl⟩,by kernel_rfl⟩ rfl (by unfold TZ;kernel_rfl),
 zS (ty:=.bool) (b:=8) ⟨⟨_,Tryz.underlying290,rfl⟩,by kernel_rfl⟩ rfl (by unfold TZ;kernel_rfl),
 tX (n:=1) (z:=.int .u64 0) ⟨⟨_,Tryz.underlying295,rfl⟩,by kernel_rfl⟩ rfl (by unfold TZ;kernel_rfl) rfl (bp rfl) (fun h=>by cases h) (fun k h=>by obtain rfl:=ae h;exact Tryz.underlying295),
 oM ⟨⟨_,Tryz.underlying300,rfl⟩,by kernel_rfl⟩ Tryz.underlying300 (by unfold TZ;kernel_rfl),
 kP (z:=.agg #[.int .i64 0,.int .i64 0,.int .i64 0,.int .i64 0,.slice none 0 0]) ⟨⟨_,Tryz.underlying302,rfl⟩,by kernel_rfl⟩ rfl ⟨⟨_,_,Tryz.underlying302,rfl,rfl,by kernel_rfl⟩,⟨_,_,Tryz.underlying302,rfl,rfl,by kernel_rfl⟩,trivial⟩ (by unfold TZ;kernel_rfl) rfl (bp rfl) ⟨_,Tryz.underlying302,by kernel_rfl⟩ (fun ks h=>by cases h),
 Yk (m:=⟨3,3,.int,.int⟩) (ty:=.bool) ⟨⟨_,Tryz.underlying306,rfl⟩,by kernel_rfl⟩ rfl ⟨Tryz.underlying306,kk3,ek3⟩,
 zS (ty:=.bool) (b:=8) ⟨⟨_,Tryz.underlying308,rfl⟩,by kernel_rfl⟩ rfl (by unfold TZ;kernel_rfl),
 tX (n:=1) (z:=.int .u64 0) ⟨⟨_,Tryz.underlying321,rfl⟩,by kernel_rfl⟩ rfl (by unfold TZ;kernel_rfl) rfl (bp rfl) (fun h=>by cases h) (fun k h=>by obtain rfl:=ae h;exact Tryz.underlying321),
 tX (n:=1) (z:=.int .u32 0) ⟨⟨_,Tryz.underlying344,rfl⟩,by kernel_rfl⟩ rfl (by unfold TZ;kernel_rfl) rfl (bp rfl) (fun h=>by cases h) (fun k h=>by obtain rfl:=ae h;exact Tryz.underlying344),
 zS (ty:=.bool) (b:=8) ⟨⟨_,Tryz.underlying351,rfl⟩,by kernel_rfl⟩ rfl (by unfold TZ;kernel_rfl),trivial⟩
theorem mixed:Tryz.prog.follows .mixedOrders=true:=by kernel_rfl
def SV (fn:Func):Code:=match fn.body with
 | some c=>c
 | none=>.skip
theorem fk {k:FuncId} {fn:Func} {f:FS} (ft:FT) (hF:FTok Tryz.prog ft) (hf:Tryz.prog.funcs[k]? =some fn) (ann:Ann) (an:List (Nat×Ty):=[]) (tr:Trs:=[]) (hb:fn.body=some (SV fn):=by rfl) (he:(fn.name == "runtime.NumGoroutine")=false:=by kernel_rfl) (hcl:f.cl=none:=by rfl) (hm:Nat.ble f.ps.length fn.ntmps=true:=by rfl) (hdp:(Fa f.rs&&zt f.ps)=true:=by rfl)
  (hmod: ∀d,appP f.ps f.m d=j9 ⟨tt,ft,an,fn.ntmps,tr⟩ (NR ⟨tt,ft,an,fn.ntmps,tr⟩ fn.results.toList f.rs f.ps d) (SV fn) ann (fun r=>some r) (fun _ _=>none) (NR ⟨tt,ft,an,fn.ntmps,tr⟩ fn.results.toList f.rs f.ps d) (qU (zQ f.ps d)):=by intro d;kernel_rfl):FOk Tryz.prog k f:=
 fok (V:=⟨tt,ft,an,fn.ntmps,tr⟩) Vj hF mixed hf hb rfl (enters_of hf he hb) hcl (bp hm) hdp ann hmod
def wH:FS:=⟨[.rd y91,.rd y3],[y3],sy,none⟩
def zV:FS:=⟨[.rd XN,.rd y3],[y3],tY,none⟩
def zW:FS:=⟨[.rd XO,.rd y3],[y3],pT,none⟩
def xu:FS:=⟨[.rd y22,.rd y3],[y3],rr,none⟩
def vl:FS:=⟨[.rd y24,.rd y3],[y3],mF,none⟩
def zX:FS:=⟨[.rd FW,.rd y3],[y3],tZ,none⟩
def zY:FS:=⟨[.rd KQ,.rd y3],[y3],ua,none⟩
def rz:FS:=⟨[.rd XP,.rd y3],[y3],kd,none⟩
def qv:FS:=⟨[.rd y25,.rd y3],[y3],mi,none⟩
def xw:FS:=⟨[.rd y54,.rd y3],[y3],ru,none⟩
def Co:FS:=⟨[.rd y56,.rd y3],[y3],sA,none⟩
def qw:FS:=⟨[.rd XQ,.rd y3],[y3],jf,none⟩
def pd:FS:=⟨[.rd y26,.rd y3],[y3],kU,none⟩
def tf:FS:=⟨[.rd y28,.rd y3],[y3],lz,none⟩
def pe:FS:=⟨[.rd y29,.rd y3],[y3],kV,none⟩
def xx:FS:=⟨[.rd y31,.rd y3],[y3],oh,none⟩
def kG:FS:=⟨[.rd y3,.rd y3,.rd y3],[y4],cD,none⟩
def Cp:FS:=⟨[.rd DF,.rd GO],[y4],Cm,none⟩
def qx:FS:=⟨[.rd DF],[y4],gp,none⟩
def vm:FS:=⟨[.rd y91,.rd y91],[y3],nk,none⟩
def gJ:FS:=⟨[.rd y36],[y4],m_s_IsValidHistory,none⟩
def rA:FS:=⟨[.rd y3],[y4],lY,none⟩
def ui:FS:=⟨[.rd xt],[y3],nl,none⟩
def Cq:FS:=⟨[.rd y61],[y4],sB,none⟩
def rB:FS:=⟨[.rd y61],[y4],ke,none⟩
def qe:FS:=⟨[.rd y59],[y3],gS,none⟩
def qf (n:Nat):FS:=⟨[.rd y59],[y3],dO n,none⟩
def sJ:FS:=⟨[.rd y59],[y61],gy,none⟩
def wI:FS:=⟨[.rd y61,.rd y61,.rd xt],[y61],kW,none⟩
def Cr:FS:=⟨[.rd y3],[y61],o6,none⟩
def ou (n:Nat):FS:=⟨[.rd y61,.rd y3,.rd y3],[y61],jK n,none⟩
def mR (n:Nat):FS:=⟨[.rd y59],[y61],cK n,none⟩
def tg:FS:=⟨[.rd y61],[y61,y4],lB,none⟩
def zZ:FS:=⟨[.ptr 230 JE,.rd y3,.rd y3],[],np,none⟩
def ox (n:Nat):FS:=⟨[.ptr 230 JE,.rd y59],[Y7],c7 n,none⟩
def oy:FS:=⟨[.rd y61],[JE,y4],gE,none⟩
def xy:FS:=⟨[.rd JE,.rd y3,.rd y3],[y3],oj,none⟩
def uj:FS:=⟨[.rd y91,.rd y3],[y3],nr,none⟩
def th:FS:=⟨[.rd JE,.rd y3],[y4],lC,none⟩
def tj:FS:=⟨[.rd JE,.rd y3],[k8,y4],iV,none⟩
def tk:FS:=⟨[],[k8],oO,none⟩
def vn:FS:=⟨[.rd k8,.rd y91,.rd FW],[k8],iz,none⟩
def uk:FS:=⟨[.rd k8],[FW],kX,none⟩
def Cs:FS:=⟨[.rd k8,.rd y91,.rd y3],[y91],o7,none⟩
def tl:FS:=⟨[.rd k8],[y91],iY,none⟩
def rC:FS:=⟨[.rd k8],[k8],gV,none⟩
def rD:FS:=⟨[.rd y61],[k8,y4],gW,none⟩
def k9:FS:=⟨[.rd k8,.rd k8],[y4],fB,none⟩
def xz:FS:=⟨[.rd y37,.rd k8],[y3],lZ,none⟩
def xA:FS:=⟨[.rd y38],[y40,y4],om,none⟩
def tm:FS:=⟨[.rd y61,.rd y61],[y4],lE,none⟩
def nz:FS:=⟨[.rd y40,.rd y40],[y4],fS,none⟩
def nA:FS:=⟨[.rd y40],[y4],fT,none⟩
def fG:FS:=⟨[.rd y36],[y3],bS,none⟩
def vo:FS:=⟨[.rd y40,.rd y3],[y3],kg,none⟩
def Aa:FS:=⟨[.rd y43],[y4],ub,none⟩
def mS:FS:=⟨[.rd y3],[y9],bY,none⟩
def mo:FS:=⟨[.rd y3],[y9],eF,none⟩
def oP:FS:=⟨[.rd GO],[y9],iZ,none⟩
def nB:FS:=⟨[.rd y73],[y9],cL,none⟩
def xB:FS:=⟨[.rd y9],[y3],fJ,none⟩
def qy:FS:=⟨[.rd y3,.rd y73],[y9],dq,none⟩
def vp:FS:=⟨[.rd y9,.rd y5],[Yo],gY,none⟩
def rE:FS:=⟨[.rd y9],[y3,y4],fK,none⟩
def rF:FS:=⟨[.rd y9],[y3,y4],fD,none⟩
def vq:FS:=⟨[.rd y9],[GO,y4],fU,none⟩
def tn:FS:=⟨[.rd y9],[y73,y4],dH,none⟩
def qz:FS:=⟨[.rd y9],[y3,y73,y4],jh,none⟩
def Ab:FS:=⟨[.rd y9],[y91,.sl 73 (.bag y73),y3],m_s_ScanLog,none⟩
def Ct:FS:=⟨[.rd y43],[y4],wG,none⟩
def pf:FS:=⟨[.rd y43],[y4],dK,none⟩
def wJ:FS:=⟨[.rd y91],[y91],o8,none⟩
def Cu:FS:=⟨[.rd XM],[GO],sC,none⟩
def Ac:FS:=⟨[.rd XN],[Vi],pV,none⟩
def Ad:FS:=⟨[.rd XO],[DF],pW,none⟩
def xC:FS:=⟨[.rd y22],[y34],oq,none⟩
def vr:FS:=⟨[.rd y24],[y36],mI,none⟩
def Ae:FS:=⟨[.rd FW],[FW],pX,none⟩
def Af:FS:=⟨[.rd KQ],[KQ],pY,none⟩
def rG:FS:=⟨[.rd XP],[k8],kl,none⟩
def qA:FS:=⟨[.rd y25],[y37],ji,none⟩
def Ag:FS:=⟨[.rd Yn],[xt],pZ,none⟩
def xD:FS:=⟨[.rd y54],[y59],ot,none⟩
def Cv:FS:=⟨[.rd y56],[y61],sD,none⟩
def qB:FS:=⟨[.rd XQ],[zU],jj,none⟩
def pg:FS:=⟨[.rd y26],[y38],iB,none⟩
def tq:FS:=⟨[.rd y28],[y40],lI,none⟩
def qC:FS:=⟨[.rd Ym],[y88],jk,none⟩
def ph:FS:=⟨[.rd y29],[y41],iC,none⟩
def xE:FS:=⟨[.rd y31],[y43],hH,none⟩
def gA:FS:=⟨[.rd y3,.rd y3,.rd y3],[y4],bV,none⟩
def wK:FS:=⟨[.rd GO,.rd y3],[y4],jL,none⟩
def qD:FS:=⟨[.rd DF],[y4],cr,none⟩
def cR:FS:=⟨[.rd y91,.rd y91],[y4],b8,none⟩
def gK:FS:=⟨[.rd y36],[y4],m_i_IsValidHistory,none⟩
def rH:FS:=⟨[.rd y3],[y4],jM,none⟩
def Ah:FS:=⟨[.rd xt],[y4],p7,none⟩
def bG:FS:=⟨[.rd XR],[XR],fun _=>none,some (274,8)⟩
def sK:FS:=⟨[.rd y61],[t274],mW,none⟩
def Cw:FS:=⟨[.rd y61],[y4],sE,none⟩
def rI:FS:=⟨[.rd y61],[y4],ko,none⟩
def lU (n:Nat):FS:=⟨[.rd t274],[y3],bP n,none⟩
def JF:FS:=⟨[.rd y3],[t274],DE,none⟩
def oz (n:Nat):FS:=⟨[.eat t274,.rd y3,.rd y3],[t274],jN n,none⟩
def kH (n:Nat):FS:=⟨[.rd t274],[t274],bB n,none⟩
def jA (n:Nat):FS:=⟨[.rd t274,.ptr 61 y61],[],bz n,none⟩
def vt:FS:=⟨[.rd t274],[y61],p9,none⟩
def tu:FS:=⟨[.rd y61],[y61,y4],lJ,none⟩
def mz:FS:=⟨[.ptr 230 JE,.rd y3,.rd y3],[],dw,none⟩
def gj (n:Nat):FS:=⟨[.ptr 230 JE,.rd t274],[Y8],bC n,none⟩
def oA:FS:=⟨[.rd y61],[JE,y4],gF,none⟩
def mq:FS:=⟨[.rd y3,.rd y3,.fn [y3] [y4],.fn [y3,y3] [y3,y4]],[k8,y4],eG,none⟩
def ma:FS:=⟨[.rd JE,.rd y3],[y4],de,none⟩
def nC:FS:=⟨[.rd JE,.rd y3,.rd y3],[y3],fW,none⟩
def pj:FS:=⟨[.rd y3,.rd y3,.cap 230 JE],[y3,y4],cW,none⟩
def rJ:FS:=⟨[.rd JE,.rd y3],[k8,y4],hO,none⟩
def bL:FS:=⟨[.rd FW],[FW],fun _=>none,some (4,1)⟩
def oB:FS:=⟨[.rd k8],[FW],eM,none⟩
def eA:FS:=⟨[.rd KQ,.fn [y91] [y4]],[y3],bR,none⟩
def kQ:FS:=⟨[.rd y91,.cap 91 y91],[y4],gC,none⟩
def mA:FS:=⟨[.rd k8,.rd y91],[y91,y3],dx,none⟩
def mb:FS:=⟨[.rd k8],[y91],di,none⟩
def nD:FS:=⟨[.rd WZ,.rd WZ],[WZ,WZ],uc,none⟩
def nE:FS:=⟨[.rd WY,.rd WY],[WY,WY],nt,none⟩
def pn:FS:=⟨[.rd WX,.rd WX],[WX,WX],o9,none⟩
def il:FS:=⟨[.rd y91,.rd y3],[y91],hZ,none⟩
def Ai:FS:=⟨[],[k8],ud,none⟩
def iQ:FS:=⟨[.rd y91,.rd y3],[y3],eC,none⟩
def jP:FS:=⟨[.rd y3,.cap 91 y91],[y3],a8,none⟩
def jQ:FS:=⟨[.rd y3,.cap 189 k8,.capf 308 [y3] [y3]],[y4],cy,none⟩
def oC:FS:=⟨[.rd k8,.rd y3,.rd y3],[y3],eN,none⟩
def jR:FS:=⟨[.rd y3,.rd y3,.cap 189 k8,.capf 308 [y3] [y3],.cap 91 y91],[y3,y4],cz,none⟩
def kR:FS:=⟨[.rd k8],[k8],cU,none⟩
def FX:FS:=⟨[.rd k8],[k8,y4],zT,none⟩
def rK:FS:=⟨[.rd y61],[k8,y4],ic,none⟩
def cQ:FS:=⟨[.rd y37,.fn [k8] [y4]],[y3],a7,none⟩
def gL:FS:=⟨[.rd FW,.rd FW],[y4],dE,none⟩
def cg:FS:=⟨[.rd KQ,.rd KQ,.fn [y91,y91] [y4]],[y4],bJ,none⟩
def nF:FS:=⟨[.rd y91,.rd y91],[y4],fX,none⟩
def ld:FS:=⟨[.rd k8,.rd k8],[y4],dL,none⟩
def xF:FS:=⟨[.rd k8,.cap 189 k8],[y4],l6,none⟩
def rL:FS:=⟨[.rd y61],[y61],fL,none⟩
def Cx:FS:=⟨[.rd y38],[y40,y4],sF,none⟩
def bE:FS:=⟨[.rd y37,.rd y37,.fn [k8,k8] [y4]],[y4],aY,none⟩
def bA:FS:=⟨[.rd y38,.rd y38,.fn [zU,zU] [y4]],[y4],aU,none⟩
def fN:FS:=⟨[.rd y59,.rd y59],[y4],cf,none⟩
def tv:FS:=⟨[.rd y61,.rd y61],[y4],lK,none⟩
def qF:FS:=⟨[.rd zU,.rd zU],[y4],gr,none⟩
def nG:FS:=⟨[.rd y40,.rd y40],[y4],fY,none⟩
def nH:FS:=⟨[.rd y40],[y4],fZ,none⟩
def iK:FS:=⟨[.rd y36],[y3],dM,none⟩
def cF:FS:=⟨[.rd y38,.fn [zU] [y4]],[y3],bQ,none⟩
def rM:FS:=⟨[.rd zU,.cap 3 y3],[y4],kq,none⟩
def vu:FS:=⟨[.rd y40,.rd y3],[y3],kt,none⟩
def mc:FS:=⟨[.rd y9,.rd y5],[.int .i64],eO,none⟩
def qG:FS:=⟨[.rd y3],[.str],mj,none⟩
def qg:FS:=⟨[.rd y3],[y9],cX,none⟩
def oQ:FS:=⟨[.rd GO],[y9],ja,none⟩
def qH:FS:=⟨[.rd Yo,.rd y9],[.str],jl,none⟩
def nI:FS:=⟨[.rd y73],[y9],dR,none⟩
def xG:FS:=⟨[.rd y9],[y3],jO,none⟩
def mr:FS:=⟨[.rd y3,.rd y73],[y9],eH,none⟩
def lf:FS:=⟨[.rd y9,.rd y9],[.sl 9 .str],cA,none⟩
def rN:FS:=⟨[.rd y9],[.int .i64,.bool],fM,none⟩
def rO:FS:=⟨[.rd y9,.rd y9],[.str,.str,.bool],cO,none⟩
def vv:FS:=⟨[.rd y9],[GO,y4],ga,none⟩
def tw:FS:=⟨[.rd y9],[y73,y4],dI,none⟩
def qI:FS:=⟨[.rd y9],[y3,y73,y4],jm,none⟩
def um:FS:=⟨[.rd y9],[y91,.sl 73 (.bag y73),y3],m_i_ScanLog,none⟩
def lh:FS:=⟨[.rd y43],[y4],fF,none⟩
def wL:FS:=⟨[.rd y91,.rd y91],[y4],sG,none⟩
def Cy:FS:=⟨[.rd GO,.rd GO],[y4],sH,none⟩
def Aj:FS:=⟨[.rd Vi,.rd Vi],[y4],ue,none⟩
def Ak:FS:=⟨[.rd DF,.rd DF],[y4],qa,none⟩
def xH:FS:=⟨[.rd y34,.rd y34],[y4],rv,none⟩
def vx:FS:=⟨[.rd y36,.rd y36],[y4],mK,none⟩
def Al:FS:=⟨[.rd FW,.rd FW],[y4],uf,none⟩
def Am:FS:=⟨[.rd KQ,.rd KQ],[y4],ug,none⟩
def rP:FS:=⟨[.rd k8,.rd k8],[y4],ky,none⟩
def qJ:FS:=⟨[.rd y37,.rd y37],[y4],mn,none⟩
def An:FS:=⟨[.rd xt,.rd xt],[y4],qb,none⟩
def xI:FS:=⟨[.rd y59,.rd y59],[y4],ry,none⟩
def Cz:FS:=⟨[.rd y61,.rd y61],[y4],sI,none⟩
def qK:FS:=⟨[.rd zU,.rd zU],[y4],jn,none⟩
def po:FS:=⟨[.rd y38,.rd y38],[y4],kZ,none⟩
def tx:FS:=⟨[.rd y40,.rd y40],[y4],lO,none⟩
def qL:FS:=⟨[.rd y88,.rd y88],[y4],jo,none⟩
def pq:FS:=⟨[.rd y41,.rd y41],[y4],k7,none⟩
def xJ:FS:=⟨[.rd y43,.rd y43],[y4],ig,none⟩
def CA:FS:=⟨[.rd DF],[DF],pa,none⟩
def wM:FS:=⟨[.rd y36],[y36],pb,none⟩
def Ao:FS:=⟨[.rd k8],[k8],qc,none⟩
def Ap:FS:=⟨[.rd y40],[y40],qd,none⟩
def Aq:FS:=⟨[.rd y43],[y43],ny,none⟩
def oD:FS:=⟨[.rd y36,.rd y3],[y36,y4],dm,none⟩
def mB:FS:=⟨[.rd y43],[y43,y4],fo,none⟩
def rQ:FS:=⟨[.rd y91],[y91],l7,none⟩
def qi:FS:=⟨[.rd DF],[DF],iD,none⟩
def nJ:FS:=⟨[.rd y36],[y36],ij,none⟩
def pv:FS:=⟨[.rd k8],[k8],iE,none⟩
def qM:FS:=⟨[.rd y40],[y40],jq,none⟩
def tz:FS:=⟨[.rd y43],[y43],lP,none⟩
def Ar:FS:=⟨[.rd y36,.rd y3],[DF,y4],uh,none⟩
def oE:FS:=⟨[.rd y36,.rd y3],[y36,y4],gG,none⟩
def pw:FS:=⟨[.rd y43,.rd y3],[y43,y4],iF,none⟩
def mC:FS:=⟨[.rd y43],[y43,y4],dA,none⟩
def rR:FS:=⟨[.ow y91,.rd y3],[y3],l8,none⟩
def vy:FS:=⟨[.ow Vi,.rd y3],[y3],mL,none⟩
def tC:FS:=⟨[.ow y34,.rd y3],[y3],lQ,none⟩
def rS:FS:=⟨[.ow y36,.rd y3],[y3],kC,none⟩
def vz:FS:=⟨[.ow FW,.rd y3],[y3],mM,none⟩
def vA:FS:=⟨[.ow KQ,.rd y3],[y3],mN,none⟩
def oF:FS:=⟨[.ow y37,.rd y3],[y3],gH,none⟩
def tD:FS:=⟨[.ow y59,.rd y3],[y3],lR,none⟩
def nK:FS:=⟨[.ow y38,.rd y3],[y3],gf,none⟩
def qN:FS:=⟨[.ow y40,.rd y3],[y3],jv,none⟩
def nL:FS:=⟨[.ow y41,.rd y3],[y3],gg,none⟩
def tE:FS:=⟨[.ow y43,.rd y3],[y3],eX,none⟩
def rT:FS:=⟨[.rd y91,.rd y3],[y3],l9,none⟩
def vB:FS:=⟨[.rd Vi,.rd y3],[y3],mO,none⟩
def tF:FS:=⟨[.rd y34,.rd y3],[y3],lS,none⟩
def rU:FS:=⟨[.rd y36,.rd y3],[y3],kE,none⟩
def vC:FS:=⟨[.rd FW,.rd y3],[y3],mP,none⟩
def vD:FS:=⟨[.rd KQ,.rd y3],[y3],mQ,none⟩
def oG:FS:=⟨[.rd y37,.rd y3],[y3],gI,none⟩
def tG:FS:=⟨[.rd y59,.rd y3],[y3],lT,none⟩
def nM:FS:=⟨[.rd y38,.rd y3],[y3],gh,none⟩
def qO:FS:=⟨[.rd y40,.rd y3],[y3],jz,none⟩
def nN:FS:=⟨[.rd y41,.rd y3],[y3],gi,none⟩
def tH:FS:=⟨[.rd y43,.rd y3],[y3],gz,none⟩
def nO:FS:=⟨[.rd y31],[y4],cP,none⟩
end R
namespace R
open Go.RowKit
open D
theorem CB:FOk Tryz.prog 206 wH:=fk [] trivial Tryz.func206 .no
theorem HM:FOk Tryz.prog 207 zV:=fk [] trivial Tryz.func207 .no
theorem HO:FOk Tryz.prog 149 zW:=fk [(206,wH),(207,zV)] ⟨CB,HM,trivial⟩ Tryz.func149 .no
theorem FY:FOk Tryz.prog 95 xu:=fk [(149,zW)] ⟨HO,trivial⟩ Tryz.func95 (.two .no (.two .no (.two .no (.two (.two .no (.loop [.slot 1 (.num .i64),.slot 5 (.num .i64)] .no)) .no))))
theorem DG:FOk Tryz.prog 40 vl:=fk [(95,xu)] ⟨FY,trivial⟩ Tryz.func40 .no
theorem HP:FOk Tryz.prog 208 zX:=fk [] trivial Tryz.func208 .no
theorem HQ:FOk Tryz.prog 209 zY:=fk [(206,wH)] ⟨CB,trivial⟩ Tryz.func209 (.two .no (.two .no (.two .no (.two (.two .no (.loop [.slot 1 (.num .i64),.slot 5 (.num .i64)] .no)) .no))))
theorem As:FOk Tryz.prog 150 rz:=fk [(208,zX),(209,zY)] ⟨HP,HQ,trivial⟩ Tryz.func150 .no
theorem yc:FOk Tryz.prog 96 qv:=fk [(150,rz)] ⟨As,trivial⟩ Tryz.func96 (.two .no (.two .no (.two .no (.two (.two .no (.loop [.slot 1 (.num .i64),.slot 5 (.num .i64)] .no)) .no))))
theorem FZ:FOk Tryz.prog 82 xw:=fk [] trivial Tryz.func82 .no
theorem KR:FOk Tryz.prog 28 Co:=fk [(82,xw)] ⟨FZ,trivial⟩ Tryz.func28 .no
theorem yd:FOk Tryz.prog 151 qw:=fk [(28,Co)] ⟨KR,trivial⟩ Tryz.func151 .no
theorem wN:FOk Tryz.prog 97 pd:=fk [(151,qw)] ⟨yd,trivial⟩ Tryz.func97 (.two .no (.two .no (.two .no (.two (.two .no (.loop [.slot 1 (.num .i64),.slot 5 (.num .i64)] .no)) .no))))
theorem Bk:FOk Tryz.prog 41 tf:=fk [(96,qv),(97,pd)] ⟨yc,wN,trivial⟩ Tryz.func41 .no
theorem wO:FOk Tryz.prog 42 pe:=fk [] trivial Tryz.func42 .no
theorem F5:FOk Tryz.prog 11 xx:=fk [(40,vl),(41,tf),(42,pe)] ⟨DG,Bk,wO,trivial⟩ Tryz.func11 .no
theorem lV:FOk Tryz.prog 59 kG:=fk [] trivial Tryz.func59 .no
end R
namespace R
open Go.RowKit
open D
theorem KS:FOk Tryz.prog 152 Cp:=fk [(59,kG)] ⟨lV,trivial⟩ Tryz.func152 .no
theorem ye:FOk Tryz.prog 98 qx:=fk [(59,kG),(152,Cp)] ⟨lV,KS,trivial⟩ Tryz.func98 (.two .no (.two (.two .no (.loop [.slot 3 (.num .i64)] .no)) (.two (.two .no (.loop [.slot 4 (.num .i64)] .no)) .no)))
theorem At:FOk Tryz.prog 99 vm:=fk [] trivial Tryz.func99 (.two .no (.two (.two .no (.loop [.slot 5 (.num .i64)] .no)) .no))
theorem kI:FOk Tryz.prog 43 gJ:=fk [(59,kG),(98,qx),(99,vm)] ⟨lV,ye,At,trivial⟩ Tryz.func43 (.two .no (.two (.two .no (.loop [.slot 3 (.num .i64)] .no)) .no))
theorem xK:FOk Tryz.prog 276 rA:=fk [(59,kG)] ⟨lV,trivial⟩ Tryz.func276 .no
theorem Au:FOk Tryz.prog 322 ui:=fk [(59,kG),(276,rA)] ⟨lV,xK,trivial⟩ Tryz.func322 (.two .no (.two (.two .no (.join [.slot 5 .boo] .no (.two .no (.two .no (.two .no (.join [.slot 37 .boo] .no .no)))))) .no))
theorem KT:FOk Tryz.prog 319 Cq:=fk [(322,ui)] ⟨Au,trivial⟩ Tryz.func319 (.two .no (.two .no (.two (.two .no (.loop [.slot 3 (.num .i64),.slot 4 (.num .i64)] .no)) .no)))
theorem Av:FOk Tryz.prog 281 rB:=fk [(319,Cq)] ⟨KT,trivial⟩ Tryz.func281 .no
theorem uo:FOk Tryz.prog 284 qe:=fk [(322,ui)] ⟨Au,trivial⟩ Tryz.func284 (.two .no (.two .no (.two .no (.two (.loop [.slot 3 (.num .i64),.slot 4 (.num .i64)] .no) .no))))
theorem Aw: ∀n,FOk Tryz.prog 282 (qf n)
 | 0=>ka (f:=qf 0) (enters_of Tryz.func282 (by kernel_rfl) rfl) rfl (fun d=>rfl)
 | n+1=>by
  have ih:=Aw n
  exact fk [(282,(qf n)),(284,qe)] ⟨ih,uo,trivial⟩ Tryz.func282 (.two .no (.two .no (.two .no (.two (.two .no (.two (.two .no (.at [.slot 15 .boo] .no)) .no)) .no))))
theorem wP:FOk Tryz.prog 155 sJ:=fk [] trivial Tryz.func155 .no
theorem CC:FOk Tryz.prog 320 wI:=fk [(155,sJ)] ⟨wP,trivial⟩ Tryz.func320 .no
theorem KU:FOk Tryz.prog 343 Cr:=fk [] trivial Tryz.func343 .no
theorem xL: ∀n,FOk Tryz.prog 321 (ou n)
 | 0=>ka (f:=ou 0) (enters_of Tryz.func321 (by kernel_rfl) rfl) rfl (fun d=>rfl)
 | n+1=>by
  have ih:=xL n
  exact fk [(320,wI),(321,(ou n)),(343,Cr)] ⟨CC,ih,KU,trivial⟩ Tryz.func321 .no
theorem vE: ∀n,FOk Tryz.prog 283 (mR n)
 | 0=>ka (f:=mR 0) (enters_of Tryz.func283 (by kernel_rfl) rfl) rfl (fun d=>rfl)
 | n+1=>by
  have ih:=vE n
  exact fk [(283,(mR n)),(284,qe),(320,wI),(321,(ou gl))] ⟨ih,uo,CC,(xL gl),trivial⟩ Tryz.func283 (.two .no (.two .no (.two .no (.two (.two .no (.two (.two .no (.at [.slot 15 .boo] .no)) .no)) .no))))
theorem Bl:FOk Tryz.prog 248 tg:=fk [(281,rB),(282,(qf gl)),(283,(mR gl))] ⟨Av,(Aw gl),(vE gl),trivial⟩ Tryz.func248 .no
theorem HS:FOk Tryz.prog 285 zZ:=fk [] trivial Tryz.func285 (.two .no (.loop [.slot 6 (.num .i64),.par 3 [3] 3 y3] (.two .no (.two (.at [.par 3 [3] 3 y3] .no) .no))))
end R
namespace R
open Go.RowKit
open D
theorem xM: ∀n,FOk Tryz.prog 249 (ox n)
 | 0=>ka (f:=ox 0) (enters_of Tryz.func249 (by kernel_rfl) rfl) rfl (fun d=>rfl)
 | n+1=>by
  have ih:=xM n
  exact fk [(249,(ox n)),(284,qe),(285,zZ)] ⟨ih,uo,HS,trivial⟩ Tryz.func249 (.two .no (.two .no (.two .no (.two (.two .no (.two .no (.two .no (.two .no (.two .no (.two .no (.two (.two .no (.two .no (.two .no (.two .no (.two .no (.two (.two .no (.at [.box 11 [.boo,(.num .i64),(.num .i64)]] .no)) (.two (.two .no (.at [.box 11 [.boo,(.num .i64),(.num .i64)]] .no)) .no))))))) .no))))))) .no))))
theorem vF:FOk Tryz.prog 210 oy:=fk [(248,tg),(249,(ox gl))] ⟨Bl,(xM gl),trivial⟩ Tryz.func210 (.two .no (.two .no (.two .no (.two .no (.two (.two .no (.loop [.slot 6 (.num .i64),.slot 7 (.num .i64)] (.two .no (.two (.at [.slot 6 (.num .i64)] .no) .no)))) .no)))))
theorem F6:FOk Tryz.prog 250 xy:=fk [] trivial Tryz.func250 (.two .no (.two .no (.join [.slot 7 (.num .i64)] .no (.two (.two .no (.loop [.slot 7 (.num .i64),.slot 8 (.num .i64)] (.two .no (.join [.slot 7 (.num .i64)] .no .no)))) (.two .no (.two (.two .no (.loop [.slot 9 (.num .i64),.slot 10 (.num .i64)] (.two .no (.join [.slot 9 (.num .i64)] .no .no)))) .no))))))
theorem Ax:FOk Tryz.prog 251 uj:=fk [] trivial Tryz.func251 (.two .no (.two (.two .no (.loop [.slot 5 (.num .i64)] .no)) .no))
theorem Bm:FOk Tryz.prog 252 th:=fk [] trivial Tryz.func252 .no
theorem Bn:FOk Tryz.prog 211 tj:=fk [(250,xy),(251,uj),(252,th)] ⟨F6,Ax,Bm,trivial⟩ Tryz.func211 (.two .no (.two .no (.two .no (.two (.two .no (.loop [.slot 7 (.own 3 y3),.slot 8 (.num .i64),.box 6 [(.num .i64),(.own 4 y4),(.own 91 y91)]] (.two .no (.two (.two .no (.two (.two .no (.loop [.slot 7 (.own 3 y3),.slot 9 (.own 3 y3),.slot 10 (.num .i64)] (.two .no (.two (.two .no (.two .no (.join [.slot 7 (.own 3 y3),.slot 12 (.num .i64)] .no .no))) .no)))) .no)) .no)))) .no))))
theorem Bo:FOk Tryz.prog 286 tk:=fk [] trivial Tryz.func286 (.two .no (.two .no (.two (.two .no (.loop [.slot 1 (.own 3 y3),.slot 2 (.num .i64)] .no)) .no)))
theorem DH:FOk Tryz.prog 253 vn:=fk [(251,uj),(286,tk)] ⟨Ax,Bo,trivial⟩ Tryz.func253 (.two .no (.two .no (.two .no (.two .no (.two .no (.two (.two .no (.loop [.slot 8 (.own 3 y3),.slot 9 (.own 3 y3),.slot 10 (.num .i64),.box 7 [(.num .i64),(.own 4 y4),(.own 91 y91)]] (.two .no (.two (.two .no (.two (.two .no (.loop [.slot 8 (.own 3 y3),.slot 9 (.own 3 y3),.slot 11 (.own 3 y3),.slot 12 (.num .i64)] (.two .no (.two (.two .no (.two .no (.join [.slot 8 (.own 3 y3),.slot 9 (.own 3 y3),.slot 14 (.num .i64)] .no .no))) .no)))) .no)) .no)))) .no))))))
theorem Ay:FOk Tryz.prog 255 uk:=fk [] trivial Tryz.func255 (.two .no (.two .no (.two (.two .no (.loop [.row 3 4 y4,.slot 4 (.num .i64)] (.two .no (.two (.two .no (.loop [.row 3 4 y4,.slot 5 (.num .i64)] (.two .no (.two (.two .no (.loop [.row 3 4 y4,.slot 6 (.num .i64)] (.two .no (.join [.row 3 4 y4] .no .no)))) .no)))) .no)))) .no)))
theorem KV:FOk Tryz.prog 287 Cs:=fk [] trivial Tryz.func287 (.two .no (.two .no (.two (.two .no (.loop [.slot 7 (.own 3 y3),.slot 8 (.num .i64)] (.two .no (.join [.slot 7 (.own 3 y3)] .no .no)))) .no)))
theorem Bp:FOk Tryz.prog 254 tl:=fk [(99,vm),(255,uk),(287,Cs)] ⟨At,Ay,KV,trivial⟩ Tryz.func254 (.two .no (.two .no (.two .no (.two (.two .no (.loop [.slot 4 (.own 3 y3),.slot 5 (.num .i64)] (.two .no (.two (.two .no (.two (.two .no (.at [.slot 6 (.num .i64)] .no)) (.two (.two .no (.at [.slot 6 (.num .i64)] .no)) .no))) .no)))) (.two (.two .no (.loop [.slot 4 (.own 3 y3),.slot 7 (.num .i64)] (.two .no (.two (.two .no (.two .no (.two (.two .no (.loop [.slot 8 (.own 91 y91),.slot 9 (.own 3 y3),.slot 10 (.num .i64)] (.two .no (.two (.at [.slot 8 (.own 91 y91),.slot 9 (.own 3 y3)] (.two .no (.two .no (.two .no (.two (.two .no (.loop [.slot 12 (.num .i64),.slot 13 (.num .i64)] (.two .no (.two (.at [.slot 12 (.num .i64)] .no) .no)))) (.two (.two .no (.at [.slot 8 (.own 91 y91),.slot 12 (.num .i64),.gone 11] .no)) .no)))))) .no)))) .no))) .no)))) .no)))))
theorem Az:FOk Tryz.prog 212 rC:=fk [(253,vn),(254,tl),(255,uk)] ⟨DH,Bp,Ay,trivial⟩ Tryz.func212 .no
theorem AA:FOk Tryz.prog 153 rD:=fk [(210,oy),(211,tj),(212,rC)] ⟨vF,Bn,Az,trivial⟩ Tryz.func153 .no
theorem px:FOk Tryz.prog 156 k9:=fk [(99,vm)] ⟨At,trivial⟩ Tryz.func156 (.two .no (.two .no (.two (.two .no (.loop [.slot 5 (.num .i64)] .no)) (.two (.two .no (.loop [.slot 6 (.num .i64)] .no)) .no))))
theorem F7:FOk Tryz.prog 154 xz:=fk [(156,k9)] ⟨px,trivial⟩ Tryz.func154 (.two .no (.two (.two .no (.loop [.slot 5 (.num .i64)] .no)) .no))
theorem F8:FOk Tryz.prog 100 xA:=fk [(59,kG),(153,rD),(154,xz),(155,sJ)] ⟨lV,AA,F7,wP,trivial⟩ Tryz.func100 (.two .no (.two .no (.two .no (.two (.two .no (.loop [.slot 5 (.num .i64),.box 4 [(.own 189 k8),(.own 137 zU)]] (.two .no (.two (.two .no (.two .no (.two .no (.join [.slot 8 (.num .i64),.box 4 [(.own 189 k8),(.own 137 zU)],.gone 6] .no .no)))) .no)))) .no))))
theorem Bq:FOk Tryz.prog 157 tm:=fk [] trivial Tryz.func157 (.two .no (.two .no (.two (.two .no (.loop [.slot 5 (.num .i64)] .no)) .no)))
end R
namespace R
open Go.RowKit
open D
theorem uq:FOk Tryz.prog 101 nz:=fk [(156,k9),(157,tm)] ⟨px,Bq,trivial⟩ Tryz.func101 (.two .no (.two .no (.two (.two .no (.loop [.slot 5 (.num .i64)] .no)) (.two (.two .no (.loop [.slot 6 (.num .i64)] .no)) .no))))
theorem ur:FOk Tryz.prog 44 nA:=fk [(100,xA),(101,nz)] ⟨F8,uq,trivial⟩ Tryz.func44 .no
theorem iL:FOk Tryz.prog 63 fG:=fk [(43,gJ)] ⟨kI,trivial⟩ Tryz.func63 .no
theorem DI:FOk Tryz.prog 79 vo:=fk [] trivial Tryz.func79 (.two .no (.two (.two .no (.loop [.slot 5 (.num .i64)] .no)) .no))
theorem HT:FOk Tryz.prog 45 Aa:=fk [(59,kG),(63,fG),(79,vo)] ⟨lV,iL,DI,trivial⟩ Tryz.func45 (.two .no (.two (.two .no (.loop [.slot 3 (.num .i64)] .no)) .no))
theorem qj:FOk Tryz.prog 144 mS:=fk [] trivial Tryz.func144 (.two .no (.two .no (.two .no (.two .no (.two (.loop [.slot 0 (.num .i64),.slot 3 .str] (.two .no (.two .no (.two (.two .no (.at [.slot 5 (.num .i64)] .no)) .no)))) .no)))))
theorem qP:FOk Tryz.prog 243 mo:=fk [(276,rA)] ⟨xK,trivial⟩ Tryz.func243 .no
theorem tI:FOk Tryz.prog 200 oP:=fk [(59,kG),(144,mS),(243,mo)] ⟨lV,qj,qP,trivial⟩ Tryz.func200 .no
theorem rV:FOk Tryz.prog 143 nB:=fk [(200,oP)] ⟨tI,trivial⟩ Tryz.func143 (.two .no (.two .no (.two .no (.two (.two .no (.loop [.slot 3 .str,.slot 4 (.num .i64)] (.two .no (.two (.atX [.slot 3 .str] (.two .no (.two .no (.two (.two .no (.at [.slot 3 .str] .no)) .no)))) .no)))) .no))))
theorem F9:FOk Tryz.prog 145 xB:=fk [] trivial Tryz.func145 (.two .no (.two .no (.two (.two .no (.loop [.slot 3 (.num .i64),.slot 4 (.num .i64)] .no)) .no)))
theorem yf:FOk Tryz.prog 90 qy:=fk [(59,kG),(143,nB),(144,mS),(145,xB)] ⟨lV,rV,qj,F9,trivial⟩ Tryz.func90 .no
theorem AB:FOk Tryz.prog 177 vp:=fk [] trivial Tryz.func177 (.two .no (.two .no (.two .no (.two (.two .no (.loop [.slot 5 (.own 9 y9),.slot 6 (.num .i64),.slot 7 (.num .i64)] (.two .no (.two (.at [.slot 5 (.own 9 y9),.slot 6 (.num .i64)] .no) .no)))) .no))))
theorem xN:FOk Tryz.prog 178 rE:=fk [(144,mS)] ⟨qj,trivial⟩ Tryz.func178 (.two .no (.two .no (.two .no (.two (.two .no (.loop [.slot 4 (.num .i64),.slot 5 (.num .i64),.slot 6 (.num .i64)] (.two .no (.two (.at [.slot 4 (.num .i64),.slot 5 (.num .i64)] .no) .no)))) (.two (.two .no (.at [.slot 4 (.num .i64)] .no)) .no)))))
theorem AC:FOk Tryz.prog 271 rF:=fk [(243,mo)] ⟨qP,trivial⟩ Tryz.func271 (.two .no (.two (.two .no (.loop [.slot 4 (.num .i64)] .no)) .no))
theorem DJ:FOk Tryz.prog 232 vq:=fk [(177,vp),(178,rE),(200,oP),(271,rF)] ⟨AB,xN,tI,AC,trivial⟩ Tryz.func232 .no
theorem Br:FOk Tryz.prog 179 tn:=fk [(143,nB),(177,vp),(232,vq)] ⟨rV,AB,DJ,trivial⟩ Tryz.func179 (.two .no (.two .no (.two .no (.two .no (.two (.two .no (.loop [.slot 6 (.num .i64),.box 4 [(.own 170 (.prod y4 GO))]] .no)) .no)))))
theorem yg:FOk Tryz.prog 118 qz:=fk [(90,qy),(177,vp),(178,rE),(179,tn)] ⟨yf,AB,xN,Br,trivial⟩ Tryz.func118 .no
end R
namespace R
open Go.RowKit
open D
theorem HU:FOk Tryz.prog 60 Ab:=JB (ps:=[.rd y9]) (A:=y91) (E:=73) (t:=y73) (B:=y3) (m:=m_s_ScanLog) (fk [(118,qz)] ⟨yg,trivial⟩ Tryz.func60 (.two .no (.two .no (.two .no (.two .no (.two (.two .no (.loop [.slot 5 (.own 3 y3),.slot 6 (.own 73 y73),.slot 7 (.num .i64),.slot 8 (.num .i64)] (.two .no (.two (.atX [.slot 5 (.own 3 y3),.slot 6 (.own 73 y73),.slot 7 (.num .i64)] .no) .no)))) .no))))))
theorem KW:FOk Tryz.prog 46 Ct:=fk [(60,Ab),(63,fG)] ⟨HU,iL,trivial⟩ Tryz.func46 .no
theorem wQ:FOk Tryz.prog 12 pf:=fk [(43,gJ),(44,nA),(45,Aa),(46,Ct)] ⟨kI,ur,HT,KW,trivial⟩ Tryz.func12 .no
theorem CD:FOk Tryz.prog 213 wJ:=fk [] trivial Tryz.func213 (.two .no (.two .no (.two (.two .no (.loop [.row 3 3 y3,.slot 4 (.num .i64)] .no)) .no)))
theorem KX:FOk Tryz.prog 201 Cu:=fk [] trivial Tryz.func201 .no
theorem HV:FOk Tryz.prog 214 Ac:=fk [(201,Cu)] ⟨KX,trivial⟩ Tryz.func214 (.two .no (.two .no (.two (.two .no (.loop [.row 3 168 GO,.slot 4 (.num .i64)] .no)) .no)))
theorem HW:FOk Tryz.prog 158 Ad:=fk [(213,wJ),(214,Ac)] ⟨CD,HV,trivial⟩ Tryz.func158 .no
theorem Gc:FOk Tryz.prog 102 xC:=fk [(158,Ad)] ⟨HW,trivial⟩ Tryz.func102 (.two .no (.two .no (.two (.two .no (.loop [.row 3 126 DF,.slot 4 (.num .i64)] .no)) .no)))
theorem DK:FOk Tryz.prog 47 vr:=fk [(102,xC)] ⟨Gc,trivial⟩ Tryz.func47 .no
theorem HY:FOk Tryz.prog 215 Ae:=fk [] trivial Tryz.func215 (.two .no (.two .no (.two (.two .no (.loop [.row 3 4 y4,.slot 4 (.num .i64)] .no)) .no)))
theorem HZ:FOk Tryz.prog 216 Af:=fk [(213,wJ)] ⟨CD,trivial⟩ Tryz.func216 (.two .no (.two .no (.two (.two .no (.loop [.row 3 91 y91,.slot 4 (.num .i64)] .no)) .no)))
theorem AD:FOk Tryz.prog 159 rG:=fk [(215,Ae),(216,Af)] ⟨HY,HZ,trivial⟩ Tryz.func159 .no
theorem yh:FOk Tryz.prog 103 qA:=fk [(159,rG)] ⟨AD,trivial⟩ Tryz.func103 (.two .no (.two .no (.two (.two .no (.loop [.row 3 189 k8,.slot 4 (.num .i64)] .no)) .no)))
theorem H0:FOk Tryz.prog 139 Ag:=fk [] trivial Tryz.func139 .no
theorem Ge:FOk Tryz.prog 84 xD:=fk [(139,Ag)] ⟨H0,trivial⟩ Tryz.func84 (.two .no (.two .no (.two (.two .no (.loop [.row 3 161 xt,.slot 4 (.num .i64)] .no)) .no)))
theorem KY:FOk Tryz.prog 30 Cv:=fk [(84,xD)] ⟨Ge,trivial⟩ Tryz.func30 .no
theorem yi:FOk Tryz.prog 160 qB:=fk [(30,Cv)] ⟨KY,trivial⟩ Tryz.func160 .no
end R
namespace R
open Go.RowKit
open D
theorem wR:FOk Tryz.prog 104 pg:=fk [(160,qB)] ⟨yi,trivial⟩ Tryz.func104 (.two .no (.two .no (.two (.two .no (.loop [.row 3 137 zU,.slot 4 (.num .i64)] .no)) .no)))
theorem Bs:FOk Tryz.prog 48 tq:=fk [(103,qA),(104,pg)] ⟨yh,wR,trivial⟩ Tryz.func48 .no
theorem yj:FOk Tryz.prog 105 qC:=fk [] trivial Tryz.func105 .no
theorem wS:FOk Tryz.prog 49 ph:=fk [(105,qC)] ⟨yj,trivial⟩ Tryz.func49 (.two .no (.two .no (.two (.two .no (.loop [.row 3 88 y88,.slot 4 (.num .i64)] .no)) .no)))
theorem Gf:FOk Tryz.prog 13 xE:=fk [(47,vr),(48,tq),(49,ph)] ⟨DK,Bs,wS,trivial⟩ Tryz.func13 .no
theorem iM:FOk Tryz.prog 53 gA:=fk [] trivial Tryz.func53 .no
theorem CE:FOk Tryz.prog 161 wK:=fk [(53,gA)] ⟨iM,trivial⟩ Tryz.func161 .no
theorem yk:FOk Tryz.prog 106 qD:=fk [(53,gA),(161,wK)] ⟨iM,CE,trivial⟩ Tryz.func106 (.two .no (.two .no (.two (.two .no (.loop [.slot 14 (.num .i64)] .no)) (.two (.two .no (.loop [.slot 25 (.num .i64)] .no)) .no))))
theorem eD:FOk Tryz.prog 107 cR:=fk [] trivial Tryz.func107 (.two .no (.two .no (.two (.two .no (.loop [.slot 13 (.num .i64)] .no)) .no)))
theorem kJ:FOk Tryz.prog 50 gK:=fk [(53,gA),(106,qD),(107,cR)] ⟨iM,yk,eD,trivial⟩ Tryz.func50 (.two .no (.two .no (.two .no (.two (.two .no (.loop [.slot 24 (.num .i64)] .no)) .no))))
theorem xO:FOk Tryz.prog 326 rH:=fk [(53,gA)] ⟨iM,trivial⟩ Tryz.func326 .no
theorem H1:FOk Tryz.prog 293 Ah:=fk [(53,gA),(326,rH)] ⟨iM,xO,trivial⟩ Tryz.func293 (.two .no (.two (.two .no (.two .no (.two .no (.two .no (.two .no (.join [.slot 37 .boo] .no .no)))))) .no))
theorem mu:FOk Tryz.prog 294 bG:=FR (f:=bG) (ka (f:=⟨bG.ps,bG.rs,bG.m,none⟩) (enters_of Tryz.func294 (by kernel_rfl) rfl) rfl (fun d=>rfl)) (Jz (V:=⟨tt,[],[(5,.raw)],8,[]⟩) Vj trivial mixed Tryz.func294 rfl rfl (enters_of Tryz.func294 (by kernel_rfl) rfl) (bp rfl) .no (fun E bn xs=>by cases bn <;> kernel_rfl))
theorem wT:FOk Tryz.prog 258 sK:=fk [(293,Ah),(294,bG)] ⟨H1,mu,trivial⟩ Tryz.func258 (.two .no (.two .no (.two (.two .no (.loop [.slot 3 (.own 274 Yp),.slot 13 (.num .i64)] (.two .no (.two .no (.two (.two .no (.two .no (.two (.two .no (.at [.slot 6 (.num .i64)] (.two (.two .no (.at [.slot 19 .boo] .no)) (.two .no (.two (.two .no (.at [.slot 22 .boo] .no)) .no))))) .no))) .no))))) .no))) (tr:=[(302,274,xt)])
theorem KZ:FOk Tryz.prog 323 Cw:=fk [(258,sK)] ⟨wT,trivial⟩ Tryz.func323 .no (tr:=[(302,274,xt)])
theorem AE:FOk Tryz.prog 288 rI:=fk [(323,Cw)] ⟨KZ,trivial⟩ Tryz.func288 .no
theorem tJ: ∀n,FOk Tryz.prog 289 (lU n)
 | 0=>ka (f:=lU 0) (enters_of Tryz.func289 (by kernel_rfl) rfl) rfl (fun d=>rfl)
 | n+1=>by
  have ih:=tJ n
  exact fk [(289,(lU n))] ⟨ih,trivial⟩ Tryz.func289 (.two .no (.two .no (.two (.two .no (.loop [.slot 3 (.num .i64),.slot 11 (.num .i64)] (.two .no (.two .no (.two (.at [.slot 3 (.num .i64)] .no) .no))))) .no))) (tr:=[(302,274,xt)])
end R
namespace R
open Go.RowKit
open D
theorem Rj:FOk Tryz.prog 344 JF:=fk [] trivial Tryz.func344 .no (tr:=[(302,274,xt)])
theorem xP: ∀n,FOk Tryz.prog 324 (oz n)
 | 0=>ka (f:=oz 0) (enters_of Tryz.func324 (by kernel_rfl) rfl) rfl (fun d=>rfl)
 | n+1=>by
  have ih:=xP n
  exact fk [(324,(oz n)),(344,JF)] ⟨ih,Rj,trivial⟩ Tryz.func324 .no (tr:=[(302,274,xt)])
theorem rW: ∀n,FOk Tryz.prog 290 (kH n)
 | 0=>ka (f:=kH 0) (enters_of Tryz.func290 (by kernel_rfl) rfl) rfl (fun d=>rfl)
 | n+1=>by
  have ih:=rW n
  exact fk [(290,(kH n)),(324,(oz gl))] ⟨ih,(xP gl),trivial⟩ Tryz.func290 (.two .no (.two .no (.two .no (.two (.two .no (.loop [.slot 41 (.num .i64),.box 3 [(.num .i64),(.num .i64),(.num .i64),(.num .i64),(.own 274 (.tree 302 274 xt))]] .no)) .no)))) (an:=[(52,t274)]) (tr:=[(302,274,xt)])
theorem qQ: ∀n,FOk Tryz.prog 325 (jA n)
 | 0=>ka (f:=jA 0) (enters_of Tryz.func325 (by kernel_rfl) rfl) rfl (fun d=>rfl)
 | n+1=>by
  have ih:=qQ n
  exact fk [(325,(jA n))] ⟨ih,trivial⟩ Tryz.func325 (.two (.two .no (.loop [.slot 11 (.num .i64),.box 1 [(.own 161 xt)]] .no)) .no) (tr:=[(302,274,xt)])
theorem DL:FOk Tryz.prog 291 vt:=fk [(325,(jA gl))] ⟨(qQ gl),trivial⟩ Tryz.func291 .no (tr:=[(302,274,xt)])
theorem Bt:FOk Tryz.prog 256 tu:=fk [(258,sK),(288,rI),(289,(lU gl)),(290,(kH gl)),(291,vt)] ⟨wT,AE,(tJ gl),(rW gl),DL,trivial⟩ Tryz.func256 .no (tr:=[(302,274,xt)])
theorem sW:FOk Tryz.prog 292 mz:=fk [] trivial Tryz.func292 (.two .no (.loop [.slot 12 (.num .i64),.par 3 [3] 3 y3] (.two .no (.two .no (.two (.at [.par 3 [3] 3 y3] .no) .no)))))
theorem nP: ∀n,FOk Tryz.prog 257 (gj n)
 | 0=>ka (f:=gj 0) (enters_of Tryz.func257 (by kernel_rfl) rfl) rfl (fun d=>rfl)
 | n+1=>by
  have ih:=nP n
  exact fk [(257,(gj n)),(292,mz)] ⟨ih,sW,trivial⟩ Tryz.func257 (.two .no (.two (.two .no (.two .no (.two .no (.two .no (.two .no (.two .no (.two .no (.two .no (.two (.two .no (.two .no (.two .no (.two (.two .no (.at [.box 10 [(.num .i64),(.num .i64),.boo]] .no)) (.two (.two .no (.at [.box 10 [(.num .i64),(.num .i64),.boo]] .no)) .no))))) .no))))))))) .no)) (tr:=[(302,274,xt)])
theorem vG:FOk Tryz.prog 217 oA:=fk [(256,tu),(257,(gj gl)),(258,sK)] ⟨Bt,(nP gl),wT,trivial⟩ Tryz.func217 (.two .no (.two .no (.two .no (.two .no (.two (.two .no (.loop [.slot 6 (.num .i64),.slot 22 (.num .i64)] (.two .no (.two .no (.two (.at [.slot 6 (.num .i64)] .no) .no))))) .no))))) (tr:=[(302,274,xt)])
theorem qR:FOk Tryz.prog 259 mq:=fk [] trivial Tryz.func259 (.two .no (.two .no (.two .no (.two .no (.two (.two .no (.loop [.slot 10 (.own 3 y3),.slot 11 (.map ⟨3,3,.int,.int⟩),.slot 13 (.num .i64),.box 12 [(.num .i64),(.own 4 y4),(.own 91 y91)]] (.two .no (.two (.two .no (.two (.two .no (.loop [.slot 10 (.own 3 y3),.slot 11 (.map ⟨3,3,.int,.int⟩),.slot 14 (.own 3 y3),.slot 15 (.num .i64)] (.two .no (.join [.slot 10 (.own 3 y3),.slot 11 (.map ⟨3,3,.int,.int⟩),.slot 14 (.own 3 y3)] (.two .no (.two .no (.two .no (.join [.slot 10 (.own 3 y3),.slot 11 (.map ⟨3,3,.int,.int⟩),.slot 18 (.num .i64)] .no .no)))) .no)))) .no)) .no)))) .no)))))
theorem rX:FOk Tryz.prog 260 ma:=fk [] trivial Tryz.func260 .no
theorem uu:FOk Tryz.prog 262 nC:=fk [] trivial Tryz.func262 (.two .no (.two .no (.join [.slot 7 (.num .i64)] .no (.two (.two .no (.loop [.slot 7 (.num .i64),.slot 21 (.num .i64)] (.two .no (.two .no (.join [.slot 7 (.num .i64)] .no .no))))) (.two .no (.two (.two .no (.loop [.slot 10 (.num .i64),.slot 39 (.num .i64)] (.two .no (.two .no (.join [.slot 10 (.num .i64)] .no .no))))) .no))))))
theorem wU:FOk Tryz.prog 261 pj:=fk [(262,nC)] ⟨uu,trivial⟩ Tryz.func261 .no
theorem AF:FOk Tryz.prog 218 rJ:=fk [(259,mq),(260,ma),(261,pj)] ⟨qR,rX,wU,trivial⟩ Tryz.func218 .no
theorem mT:FOk Tryz.prog 345 bL:=FR (f:=bL) (ka (f:=⟨bL.ps,bL.rs,bL.m,none⟩) (enters_of Tryz.func345 (by kernel_rfl) rfl) rfl (fun d=>rfl)) (Jz (V:=⟨tt,[],[(5,.raw)],8,[]⟩) Vj trivial mixed Tryz.func345 rfl rfl (enters_of Tryz.func345 (by kernel_rfl) rfl) (bp rfl) .no (fun E bn xs=>by cases bn <;> kernel_rfl))
theorem vH:FOk Tryz.prog 327 oB:=fk [(345,bL)] ⟨mT,trivial⟩ Tryz.func327 (.two .no (.two .no (.two (.two .no (.loop [.slot 4 .boo,.row 3 4 y4] (.two .no (.two .no (.two .no (.loop [.slot 4 .boo,.slot 16 (.num .i64),.row 3 4 y4] (.two .no (.two .no (.two (.two .no (.two .no (.loop [.slot 4 .boo,.slot 23 (.num .i64),.row 3 4 y4] (.two .no (.two .no (.two (.at [.slot 4 .boo,.row 3 4 y4] .no) .no)))))) .no))))))))) .no)))
theorem jX:FOk Tryz.prog 346 eA:=fk [] trivial Tryz.func346 (.two .no (.two (.two .no (.loop [.slot 8 (.num .i64)] .no)) .no))
end R
namespace R
open Go.RowKit
open D
theorem qY:FOk Tryz.prog 347 kQ:=fk [(107,cR)] ⟨eD,trivial⟩ Tryz.func347 .no
theorem sX:FOk Tryz.prog 328 mA:=fk [(346,eA),(347,kQ)] ⟨jX,qY,trivial⟩ Tryz.func328 (.two .no (.two .no (.two .no (.two (.two .no (.loop [.slot 6 (.own 91 y91),.slot 7 (.own 3 y3),.slot 18 (.num .i64)] (.two .no (.two .no (.join [.slot 6 (.own 91 y91),.slot 7 (.own 3 y3)] (.two .no (.two .no (.two .no (.two (.two .no (.loop [.slot 36 (.num .i64),.box 10 [(.own 3 y3)]] (.two .no (.two .no (.two (.two .no (.join [.slot 12 (.num .i64)] .no .no)) .no))))) (.two .no (.join [.slot 6 (.own 91 y91),.slot 13 (.num .i64),.gone 10] .no .no)))))) .no))))) .no))))
theorem rY:FOk Tryz.prog 295 mb:=fk [(327,oB),(328,mA)] ⟨vH,sX,trivial⟩ Tryz.func295 (.two .no (.two .no (.two (.two .no (.loop [.slot 3 (.own 3 y3),.slot 13 (.num .i64)] (.two .no (.two .no (.join [.slot 3 (.own 3 y3)] .no .no))))) (.two .no (.loop [.slot 3 (.own 3 y3),.slot 6 (.num .i64)] .no)))))
theorem uv:FOk Tryz.prog 354 nD:=fk [] trivial Tryz.func354 .no
theorem uw:FOk Tryz.prog 355 nE:=fk [] trivial Tryz.func355 .no
theorem wV:FOk Tryz.prog 348 pn:=fk [(354,nD),(355,nE)] ⟨uv,uw,trivial⟩ Tryz.func348 .no
theorem nQ:FOk Tryz.prog 329 il:=fk [(348,pn)] ⟨wV,trivial⟩ Tryz.func329 (.two .no (.two .no (.two .no (.two .no (.two .no (.two .no (.two (.loop [.slot 8 (.num .i64),.row 7 3 (.int .i64)] .no) .no))))))) (an:=[(44,.bool)])
theorem H2:FOk Tryz.prog 296 Ai:=fk [(329,il)] ⟨nQ,trivial⟩ Tryz.func296 .no
theorem n7:FOk Tryz.prog 298 iQ:=fk [] trivial Tryz.func298 (.two .no (.two (.two .no (.loop [.slot 8 (.num .i64)] .no)) .no))
theorem py:FOk Tryz.prog 297 jP:=fk [(298,iQ)] ⟨n7,trivial⟩ Tryz.func297 .no
theorem pz:FOk Tryz.prog 299 jQ:=fk [] trivial Tryz.func299 .no
theorem vI:FOk Tryz.prog 301 oC:=fk [(326,rH)] ⟨xO,trivial⟩ Tryz.func301 .no
theorem pA:FOk Tryz.prog 300 jR:=fk [(301,oC)] ⟨vI,trivial⟩ Tryz.func300 .no
theorem qZ:FOk Tryz.prog 263 kR:=fk [(259,mq),(295,mb),(296,Ai),(297,jP),(299,jQ),(300,jR)] ⟨qR,rY,H2,py,pz,pA,trivial⟩ Tryz.func263 .no
theorem NX:FOk Tryz.prog 219 FX:=fk [(263,kR)] ⟨qZ,trivial⟩ Tryz.func219 .no
theorem AG:FOk Tryz.prog 162 rK:=fk [(217,oA),(218,rJ),(219,FX)] ⟨vG,AF,NX,trivial⟩ Tryz.func162 .no
theorem gu:FOk Tryz.prog 163 cQ:=fk [] trivial Tryz.func163 (.two .no (.two (.two .no (.loop [.slot 8 (.num .i64)] .no)) .no))
end R
namespace R
open Go.RowKit
open D
theorem mU:FOk Tryz.prog 220 gL:=fk [] trivial Tryz.func220 (.two .no (.two .no (.two (.two .no (.loop [.slot 13 (.num .i64)] .no)) .no)))
theorem eT:FOk Tryz.prog 221 cg:=fk [] trivial Tryz.func221 (.two .no (.two .no (.two (.two .no (.loop [.slot 17 (.num .i64)] .no)) .no)))
theorem uy:FOk Tryz.prog 222 nF:=fk [(107,cR)] ⟨eD,trivial⟩ Tryz.func222 .no
theorem pB:FOk Tryz.prog 165 ld:=fk [(220,gL),(221,cg),(222,nF)] ⟨mU,eT,uy,trivial⟩ Tryz.func165 .no
theorem Gg:FOk Tryz.prog 164 xF:=fk [(165,ld)] ⟨pB,trivial⟩ Tryz.func164 .no
theorem xQ:FOk Tryz.prog 166 rL:=fk [] trivial Tryz.func166 .no
theorem K0:FOk Tryz.prog 108 Cx:=fk [(53,gA),(162,rK),(163,cQ),(164,xF),(166,rL)] ⟨iM,AG,gu,Gg,xQ,trivial⟩ Tryz.func108 (.two .no (.two .no (.two (.two .no (.loop [.slot 13 (.num .i64),.box 4 [(.own 189 k8),(.own 137 zU)]] (.two .no (.two .no (.two (.two .no (.two .no (.two .no (.two .no (.join [.slot 9 (.num .i64),.box 4 [(.own 189 k8),(.own 137 zU)],.gone 7] .no .no))))) .no))))) .no)))
theorem cG:FOk Tryz.prog 167 bE:=fk [] trivial Tryz.func167 (.two .no (.two .no (.two (.two .no (.loop [.slot 17 (.num .i64)] .no)) .no)))
theorem cv:FOk Tryz.prog 168 bA:=fk [] trivial Tryz.func168 (.two .no (.two .no (.two (.two .no (.loop [.slot 17 (.num .i64)] .no)) .no)))
theorem me:FOk Tryz.prog 264 fN:=fk [] trivial Tryz.func264 (.two .no (.two .no (.two (.two .no (.loop [.slot 13 (.num .i64)] .no)) .no)))
theorem Bu:FOk Tryz.prog 223 tv:=fk [(264,fN)] ⟨me,trivial⟩ Tryz.func223 .no
theorem ym:FOk Tryz.prog 169 qF:=fk [(223,tv)] ⟨Bu,trivial⟩ Tryz.func169 .no
theorem uz:FOk Tryz.prog 109 nG:=fk [(165,ld),(167,bE),(168,bA),(169,qF)] ⟨pB,cG,cv,ym,trivial⟩ Tryz.func109 .no
theorem uA:FOk Tryz.prog 51 nH:=fk [(108,Cx),(109,nG)] ⟨K0,uz,trivial⟩ Tryz.func51 .no
theorem lj:FOk Tryz.prog 52 iK:=fk [(50,gK)] ⟨kJ,trivial⟩ Tryz.func52 .no
theorem fI:FOk Tryz.prog 110 cF:=fk [] trivial Tryz.func110 (.two .no (.two (.two .no (.loop [.slot 8 (.num .i64)] .no)) .no))
theorem AH:FOk Tryz.prog 111 rM:=fk [] trivial Tryz.func111 .no
end R
namespace R
open Go.RowKit
open D
theorem DM:FOk Tryz.prog 54 vu:=fk [(110,cF),(111,rM)] ⟨fI,AH,trivial⟩ Tryz.func54 .no
theorem rZ:FOk Tryz.prog 112 mc:=DA DC (enters_of Tryz.func112 (by kernel_rfl) rfl)
theorem yn:FOk Tryz.prog 195 qG:=Rg JC (enters_of Tryz.func195 (by kernel_rfl) rfl)
theorem vJ:FOk Tryz.prog 131 qg:=fk [(195,qG)] ⟨yn,trivial⟩ Tryz.func131 .no
theorem tK:FOk Tryz.prog 193 oQ:=fk [(131,qg),(161,wK)] ⟨vJ,CE,trivial⟩ Tryz.func193 .no
theorem yo:FOk Tryz.prog 194 qH:=Rh Ri NW 9 (enters_of Tryz.func194 (by kernel_rfl) rfl)
theorem sa:FOk Tryz.prog 130 nI:=fk [(193,oQ),(194,qH)] ⟨tK,yo,trivial⟩ Tryz.func130 (.two .no (.two .no (.two .no (.two (.two .no (.loop [.slot 3 (.own 9 y9),.slot 15 (.num .i64)] (.two .no (.two .no (.two (.atX [.slot 3 (.own 9 y9)] .no) .no))))) .no))))
theorem Gh:FOk Tryz.prog 132 xG:=fk [] trivial Tryz.func132 (.two .no (.two .no (.two (.two .no (.loop [.slot 3 (.num .i64),.slot 4 (.num .i64)] .no)) .no)))
theorem qS:FOk Tryz.prog 73 mr:=fk [(53,gA),(130,nI),(131,qg),(132,xG)] ⟨iM,sa,vJ,Gh,trivial⟩ Tryz.func73 .no
theorem pC:FOk Tryz.prog 171 lf:=NT NV (by kernel_rfl) (by kernel_rfl) (enters_of Tryz.func171 (by kernel_rfl) rfl)
theorem AI (n a b:Int) (w:World):Calls Tryz.prog 53 #[.int .i64 n,.int .i64 a,.int .i64 b] w fun e w'=>e= .returned (.bool (decide (a<=n/\n<=b)))/\w'=w:=by
 by_cases h:a<=n
 ·go_enter Tryz.func53,Tryz.ntmps53
  go_wp2
  go_ret
  simp[h]
 ·go_enter Tryz.func53,Tryz.ntmps53
  go_wp2
  go_ret
  simp
  try (intro k;omega)
theorem H3 (s:ByteArray) (r:Int×Bool) (w:World) (hr:rq s=some r) (hL:LayW Tryz.prog w):Calls Tryz.prog 172 #[.string s] w fun e w'=>e= .returned (.tuple #[.int .i64 r.1,.bool r.2])/\Below w.heap.size w w':=by
 unfold rq at hr
 by_cases h10:10<s.size
 ·rw[if_pos h10] at hr
  obtain rfl:=ae hr
  go_enter Tryz.func172,Tryz.ntmps172
  go_wp2
  go_ret2
  exact ⟨rfl,Below.refl _ _⟩
 ·rw[if_neg h10] at hr
  have h18:s.size<=18:=by omega
  cases ha:Lib.atoi s.data.toList with
  | none =>
   rw[ha] at hr
   obtain rfl:=ae hr
   obtain ⟨tp,p,hv⟩:=hL.syn
   have hcon:=Any.strconv_Atoi_err_var JD s h18 ha tp p w hv
   go_enter Tryz.func172,Tryz.ntmps172
   go_wp2_with (go_at_call 226;refine hcon.mono ?_;rintro e w' ⟨N,rfl,hN,hh,hb⟩)
   go_ret2
   exact ⟨rfl,hb⟩
  | some n =>
   rw[ha] at hr
   have hB:=Lib.atoi_bound ha (by simpa using h18)
   have hA:=Any.strconv_Atoi { JD with } s n h18 ha w
   have hI:=fun t=>Any.strconv_Itoa JC n (by omega) (by omega) (Lib.bytesWorld w 5 t) (Lib.bytesWorld_var w 5 t hL.tab)
   have hz: ∀t k os,Below w.heap.size w (Go.Sort.grow ((Lib.bytesWorld w 5 t).drewN k) os):=fun t k os=>by
    have h1:=Lib.bytesWorld_below w 5 t
    exact ⟨h1.os,h1.tape,h1.output,by have:=h1.size;simp only[Go.Sort.grow,Array.size_append];exact Nat.le_trans this (Nat.le_add_right _ _),fun b hb=>(Go.Sort.heap_grow_old ((Lib.bytesWorld w 5 t).drewN k) os (aK hb h1.size:b<((Lib.bytesWorld w 5 t).drewN k).heap.size)).trans (h1.block b hb)⟩
   replace hr:(if (⟨(Lib.itoa n).toArray⟩:ByteArray)=s/\ -999999999<=n/\n<=999999999 then some (n,true) else some (0,false))=some r:=hr
   generalize (⟨(Lib.itoa n).toArray⟩:ByteArray)=q at hr hI
   by_cases e1:q=s
   ·subst e1
    by_cases e2: -999999999<=n/\n<=999999999
    ·rw[if_pos ⟨rfl,e2.1,e2.2⟩] at hr
     obtain rfl:=ae hr
     go_enter Tryz.func172,Tryz.ntmps172
     go_wp2_with (first | (go_at_call 226;refine hA.mono ?_;rintro e w' ⟨rfl,t,rfl⟩) | (go_at_call 195;refine (hI _).mono ?_;rintro e w' ⟨rfl,k,os,rfl⟩) | (go_at_call 53;refine (AI _ _ _ _).mono ?_;rintro e w' ⟨rfl,rfl⟩))
     go_ret2
     exact ⟨rfl,hz _ _ _⟩
    ·rw[if_neg fun k=>e2 k.2] at hr
     obtain rfl:=ae hr
     go_enter Tryz.func172,Tryz.ntmps172
     go_wp2_with (first | (go_at_call 226;refine hA.mono ?_;rintro e w' ⟨rfl,t,rfl⟩) | (go_at_call 195;refine (hI _).mono ?_;rintro e w' ⟨rfl,k,os,rfl⟩) | (go_at_call 53;refine (AI _ _ _ _).mono ?_;rintro e w' ⟨rfl,rfl⟩))
     go_ret2
     exact ⟨rfl,hz _ _ _⟩
   ·rw[if_neg fun k=>e1 k.1] at hr
    obtain rfl:=ae hr
    have e2: ¬q.toList=s.toList:=fun k=>e1 (Go.WideShapes.bytes_inj (by rw[<-ByteArray.toList_eq,<-ByteArray.toList_eq];exact k))
    go_enter Tryz.func172,Tryz.ntmps172
    go_wp2_with (first | (go_at_call 226;refine hA.mono ?_;rintro e w' ⟨rfl,t,rfl⟩) | (go_at_call 195;refine (hI _).mono ?_;rintro e w' ⟨rfl,k,os,rfl⟩) | (go_at_call 53;refine (AI _ _ _ _).mono ?_;rintro e w' ⟨rfl,rfl⟩))
    go_ret2
    exact ⟨rfl,hz _ _ _⟩
theorem xR:FOk Tryz.prog 172 rN:=NU (enters_of Tryz.func172 (by kernel_rfl) rfl) H3
theorem AJ:FOk Tryz.prog 270 rO:=Ve Vg (by kernel_rfl) (enters_of Tryz.func270 (by kernel_rfl) rfl)
theorem DN:FOk Tryz.prog 227 vv:=fk [(172,rN),(193,oQ),(270,rO)] ⟨xR,tK,AJ,trivial⟩ Tryz.func227 .no
theorem Bv:FOk Tryz.prog 173 tw:=fk [(130,nI),(171,lf),(227,vv)] ⟨sa,pC,DN,trivial⟩ Tryz.func173 (.two .no (.two .no (.two .no (.two (.two .no (.loop [.slot 16 (.num .i64),.box 4 [(.own 170 (.prod y4 GO))]] .no)) .no))))
theorem yp:FOk Tryz.prog 113 qI:=fk [(73,mr),(171,lf),(172,rN),(173,tw)] ⟨qS,pC,xR,Bv,trivial⟩ Tryz.func113 .no
theorem AK:FOk Tryz.prog 55 um:=JB (ps:=[.rd y9]) (A:=y91) (E:=73) (t:=y73) (B:=y3) (m:=m_i_ScanLog) (fk [(112,mc),(113,qI)] ⟨rZ,yp,trivial⟩ Tryz.func55 (.two .no (.two .no (.two .no (.two .no (.two (.loop [.slot 5 (.own 3 y3),.slot 6 (.own 73 y73),.slot 7 (.num .i64)] .no) .no))))))
theorem pD:FOk Tryz.prog 14 lh:=fk [(50,gK),(51,nH),(52,iK),(53,gA),(54,vu),(55,um)] ⟨kJ,uA,lj,iM,DM,AK,trivial⟩ Tryz.func14 (.two .no (.two .no (.two .no (.two (.two .no (.loop [.slot 37 (.num .i64)] .no)) .no))))
end R
namespace R
open Go.RowKit
open D
theorem CF:FOk Tryz.prog 228 wL:=fk [] trivial Tryz.func228 (.two .no (.two .no (.two (.two .no (.loop [.slot 5 (.num .i64)] .no)) .no)))
theorem K4:FOk Tryz.prog 205 Cy:=fk [] trivial Tryz.func205 .no
theorem H4:FOk Tryz.prog 229 Aj:=fk [(205,Cy)] ⟨K4,trivial⟩ Tryz.func229 (.two .no (.two .no (.two (.two .no (.loop [.slot 5 (.num .i64)] .no)) .no)))
theorem H5:FOk Tryz.prog 174 Ak:=fk [(228,wL),(229,Aj)] ⟨CF,H4,trivial⟩ Tryz.func174 .no
theorem Gi:FOk Tryz.prog 114 xH:=fk [(174,Ak)] ⟨H5,trivial⟩ Tryz.func114 (.two .no (.two .no (.two (.two .no (.loop [.slot 5 (.num .i64)] .no)) .no)))
theorem DO:FOk Tryz.prog 56 vx:=fk [(114,xH)] ⟨Gi,trivial⟩ Tryz.func56 .no
theorem H6:FOk Tryz.prog 230 Al:=fk [] trivial Tryz.func230 (.two .no (.two .no (.two (.two .no (.loop [.slot 5 (.num .i64)] .no)) .no)))
theorem H7:FOk Tryz.prog 231 Am:=fk [(228,wL)] ⟨CF,trivial⟩ Tryz.func231 (.two .no (.two .no (.two (.two .no (.loop [.slot 5 (.num .i64)] .no)) .no)))
theorem AL:FOk Tryz.prog 175 rP:=fk [(230,Al),(231,Am)] ⟨H6,H7,trivial⟩ Tryz.func175 .no
theorem yq:FOk Tryz.prog 115 qJ:=fk [(175,rP)] ⟨AL,trivial⟩ Tryz.func115 (.two .no (.two .no (.two (.two .no (.loop [.slot 5 (.num .i64)] .no)) .no)))
theorem H8:FOk Tryz.prog 141 An:=fk [] trivial Tryz.func141 .no
theorem Gj:FOk Tryz.prog 86 xI:=fk [(141,An)] ⟨H8,trivial⟩ Tryz.func86 (.two .no (.two .no (.two (.two .no (.loop [.slot 5 (.num .i64)] .no)) .no)))
theorem K5:FOk Tryz.prog 32 Cz:=fk [(86,xI)] ⟨Gj,trivial⟩ Tryz.func32 .no
theorem yr:FOk Tryz.prog 176 qK:=fk [(32,Cz)] ⟨K5,trivial⟩ Tryz.func176 .no
theorem wW:FOk Tryz.prog 116 po:=fk [(176,qK)] ⟨yr,trivial⟩ Tryz.func116 (.two .no (.two .no (.two (.two .no (.loop [.slot 5 (.num .i64)] .no)) .no)))
theorem Bw:FOk Tryz.prog 57 tx:=fk [(115,qJ),(116,po)] ⟨yq,wW,trivial⟩ Tryz.func57 .no
theorem yt:FOk Tryz.prog 117 qL:=fk [] trivial Tryz.func117 .no
end R
namespace R
open Go.RowKit
open D
theorem wX:FOk Tryz.prog 58 pq:=fk [(117,qL)] ⟨yt,trivial⟩ Tryz.func58 (.two .no (.two .no (.two (.two .no (.loop [.slot 5 (.num .i64)] .no)) .no)))
theorem Gk:FOk Tryz.prog 15 xJ:=fk [(56,vx),(57,tx),(58,pq)] ⟨DO,Bw,wX,trivial⟩ Tryz.func15 .no
theorem K6:FOk Tryz.prog 180 CA:=fk [] trivial Tryz.func180 .no
theorem CG:FOk Tryz.prog 119 wM:=fk [(180,CA)] ⟨K6,trivial⟩ Tryz.func119 (.two .no (.two .no (.two (.two .no (.loop [.slot 4 (.num .i64),.box 3 [(.num .i64),(.own 126 DF)]] .no)) .no)))
theorem H9:FOk Tryz.prog 181 Ao:=fk [] trivial Tryz.func181 (.two .no (.two .no (.two (.two .no (.loop [.slot 4 (.num .i64),.box 3 [(.num .i64),(.own 4 y4),(.own 91 y91)]] .no)) .no)))
theorem Ia:FOk Tryz.prog 120 Ap:=fk [(155,sJ),(181,Ao)] ⟨wP,H9,trivial⟩ Tryz.func120 (.two .no (.two .no (.two (.two .no (.loop [.slot 4 (.num .i64),.box 3 [(.own 189 k8),(.own 137 zU)]] .no)) (.two (.two .no (.loop [.slot 5 (.num .i64),.box 3 [(.own 189 k8),(.own 137 zU)]] .no)) .no))))
theorem Ib:FOk Tryz.prog 61 Aq:=fk [(119,wM),(120,Ap)] ⟨CG,Ia,trivial⟩ Tryz.func61 .no
theorem vK:FOk Tryz.prog 62 oD:=fk [(43,gJ),(59,kG),(63,fG),(119,wM)] ⟨kI,lV,iL,CG,trivial⟩ Tryz.func62 .no (an:=[(28,.bool)])
theorem sY:FOk Tryz.prog 18 mB:=fk [(12,pf),(61,Aq),(62,oD),(63,fG)] ⟨wQ,Ib,vK,iL,trivial⟩ Tryz.func18 .no
theorem xS:FOk Tryz.prog 233 rQ:=fk [] trivial Tryz.func233 .no
theorem vL:FOk Tryz.prog 191 qi:=fk [(233,rQ)] ⟨xS,trivial⟩ Tryz.func191 .no
theorem sb:FOk Tryz.prog 127 nJ:=fk [(191,qi)] ⟨vL,trivial⟩ Tryz.func127 (.two .no (.two .no (.two (.two .no (.loop [.slot 12 (.num .i64),.box 3 [(.num .i64),(.own 126 DF)]] .no)) .no)))
theorem wY:FOk Tryz.prog 192 pv:=fk [(233,rQ)] ⟨xS,trivial⟩ Tryz.func192 (.two .no (.two .no (.two (.two .no (.loop [.slot 16 (.num .i64),.box 3 [(.num .i64),(.own 4 y4),(.own 91 y91)]] .no)) .no)))
end R
namespace R
open Go.RowKit
open D
theorem yu:FOk Tryz.prog 128 qM:=fk [(166,rL),(192,pv)] ⟨xQ,wY,trivial⟩ Tryz.func128 (.two .no (.two .no (.two (.two .no (.loop [.slot 12 (.num .i64),.box 3 [(.own 189 k8),(.own 137 zU)]] .no)) (.two (.two .no (.loop [.slot 27 (.num .i64),.box 3 [(.own 189 k8),(.own 137 zU)]] .no)) .no))))
theorem Bx:FOk Tryz.prog 71 tz:=fk [(127,nJ),(128,qM)] ⟨sb,yu,trivial⟩ Tryz.func71 .no
theorem Ic:FOk Tryz.prog 129 Ar:=fk [(50,gK),(52,iK),(53,gA),(191,qi)] ⟨kJ,lj,iM,vL,trivial⟩ Tryz.func129 .no
theorem vM:FOk Tryz.prog 72 oE:=fk [(127,nJ),(129,Ar)] ⟨sb,Ic,trivial⟩ Tryz.func72 .no (an:=[(26,.bool)])
theorem wZ:FOk Tryz.prog 23 pw:=fk [(14,lh),(55,um),(71,tz),(72,oE),(73,mr)] ⟨pD,AK,Bx,vM,qS,trivial⟩ Tryz.func23 (.two .no (.two .no (.two .no (.two .no (.two .no (.two .no (.two .no (.two .no (.two (.two .no (.loop [.slot 42 (.num .i64),.row 10 73 (.bag y73),.box 6 [(.num .i64),(.own 126 DF),(.own 189 k8),(.own 137 zU),(.own 88 y88),.str]] (.two .no (.two .no (.two (.at [.row 10 73 (.bag y73),.box 6 [(.num .i64),(.own 126 DF),(.own 189 k8),(.own 137 zU),(.own 88 y88),.str]] .no) .no))))) .no)))))))))
theorem sZ:FOk Tryz.prog 19 mC:=fk [(14,lh),(23,pw),(52,iK)] ⟨pD,wZ,lj,trivial⟩ Tryz.func19 .no
theorem xT:FOk Tryz.prog 182 rR:=fk [] trivial Tryz.func182 (.two .no (.two (.two .no (.loop [.par 0 [] 3 y3,.slot 1 (.num .i64),.slot 5 (.num .i64)] .no)) .no))
theorem DP:FOk Tryz.prog 183 vy:=fk [] trivial Tryz.func183 (.two .no (.two (.two .no (.loop [.par 0 [] 168 GO,.slot 1 (.num .i64),.slot 5 (.num .i64)] .no)) .no))
theorem By:FOk Tryz.prog 121 tC:=fk [(182,rR),(183,vy)] ⟨xT,DP,trivial⟩ Tryz.func121 (.two .no (.two (.two .no (.loop [.par 0 [] 126 DF,.slot 1 (.num .i64),.slot 5 (.num .i64)] .no)) .no))
theorem AM:FOk Tryz.prog 64 rS:=fk [(121,tC)] ⟨By,trivial⟩ Tryz.func64 .no
theorem DQ:FOk Tryz.prog 184 vz:=fk [] trivial Tryz.func184 (.two .no (.two (.two .no (.loop [.par 0 [] 4 y4,.slot 1 (.num .i64),.slot 5 (.num .i64)] .no)) .no))
theorem DR:FOk Tryz.prog 185 vA:=fk [(182,rR)] ⟨xT,trivial⟩ Tryz.func185 (.two .no (.two (.two .no (.loop [.par 0 [] 91 y91,.slot 1 (.num .i64),.slot 5 (.num .i64)] .no)) .no))
theorem vN:FOk Tryz.prog 122 oF:=fk [(184,vz),(185,vA)] ⟨DQ,DR,trivial⟩ Tryz.func122 (.two .no (.two (.two .no (.loop [.par 0 [] 189 k8,.slot 1 (.num .i64),.slot 5 (.num .i64)] .no)) .no))
theorem Bz:FOk Tryz.prog 87 tD:=fk [] trivial Tryz.func87 (.two .no (.two (.two .no (.loop [.par 0 [] 161 xt,.slot 1 (.num .i64),.slot 5 (.num .i64)] .no)) .no))
theorem uB:FOk Tryz.prog 123 nK:=fk [(87,tD)] ⟨Bz,trivial⟩ Tryz.func123 (.two .no (.two (.two .no (.loop [.par 0 [] 137 zU,.slot 1 (.num .i64),.slot 5 (.num .i64)] .no)) .no))
theorem yw:FOk Tryz.prog 65 qN:=fk [(122,oF),(123,nK)] ⟨vN,uB,trivial⟩ Tryz.func65 .no
theorem uC:FOk Tryz.prog 66 nL:=fk [] trivial Tryz.func66 (.two .no (.two (.two .no (.loop [.par 0 [] 88 y88,.slot 1 (.num .i64),.slot 5 (.num .i64)] .no)) .no))
end R
namespace R
open Go.RowKit
open D
theorem BA:FOk Tryz.prog 20 tE:=fk [(64,rS),(65,qN),(66,nL)] ⟨AM,yw,uC,trivial⟩ Tryz.func20 .no
theorem xU:FOk Tryz.prog 186 rT:=fk [] trivial Tryz.func186 (.two .no (.two (.two .no (.loop [.slot 1 (.num .i64),.slot 5 (.num .i64)] .no)) .no))
theorem DS:FOk Tryz.prog 187 vB:=fk [] trivial Tryz.func187 (.two .no (.two (.two .no (.loop [.slot 1 (.num .i64),.slot 5 (.num .i64)] .no)) .no))
theorem BB:FOk Tryz.prog 124 tF:=fk [(186,rT),(187,vB)] ⟨xU,DS,trivial⟩ Tryz.func124 (.two .no (.two (.two .no (.loop [.slot 1 (.num .i64),.slot 5 (.num .i64)] .no)) .no))
theorem AN:FOk Tryz.prog 67 rU:=fk [(124,tF)] ⟨BB,trivial⟩ Tryz.func67 .no
theorem DT:FOk Tryz.prog 188 vC:=fk [] trivial Tryz.func188 (.two .no (.two (.two .no (.loop [.slot 1 (.num .i64),.slot 5 (.num .i64)] .no)) .no))
theorem DU:FOk Tryz.prog 189 vD:=fk [(186,rT)] ⟨xU,trivial⟩ Tryz.func189 (.two .no (.two (.two .no (.loop [.slot 1 (.num .i64),.slot 5 (.num .i64)] .no)) .no))
theorem vO:FOk Tryz.prog 125 oG:=fk [(188,vC),(189,vD)] ⟨DT,DU,trivial⟩ Tryz.func125 (.two .no (.two (.two .no (.loop [.slot 1 (.num .i64),.slot 5 (.num .i64)] .no)) .no))
theorem BC:FOk Tryz.prog 190 tG:=fk [] trivial Tryz.func190 (.two .no (.two (.two .no (.loop [.slot 1 (.num .i64),.slot 5 (.num .i64)] .no)) .no))
theorem uD:FOk Tryz.prog 126 nM:=fk [(190,tG)] ⟨BC,trivial⟩ Tryz.func126 (.two .no (.two (.two .no (.loop [.slot 1 (.num .i64),.slot 5 (.num .i64)] .no)) .no))
theorem yx:FOk Tryz.prog 68 qO:=fk [(125,oG),(126,nM)] ⟨vO,uD,trivial⟩ Tryz.func68 .no
theorem uE:FOk Tryz.prog 69 nN:=fk [] trivial Tryz.func69 (.two .no (.two (.two .no (.loop [.slot 1 (.num .i64),.slot 5 (.num .i64)] .no)) .no))
theorem BD:FOk Tryz.prog 21 tH:=fk [(67,rU),(68,qO),(69,nN)] ⟨AN,yx,uE,trivial⟩ Tryz.func21 .no
theorem nR:FOk Tryz.prog 5 nO:=fk [(11,xx),(13,xE),(15,xJ),(18,mB),(19,mC),(20,tE),(21,tH)] ⟨F5,Gf,Gk,sY,sZ,BA,BD,trivial⟩ Tryz.func5 .no
end R
namespace R
open Go.RowKit
open D
end R
namespace R
open Go.RowKit
open D
end R
namespace R
open Go.RowKit
open D
end R
namespace R
open Go.RowKit
open D
end R
namespace D
open Go.RowKit
end D
namespace D
open Go.RowKit
end D
namespace D
open Go.RowKit
theorem nS (x0:(Int×Yq5)×Yq8×Yq7×ByteArray) (r:Bool) (hm:cP x0=some r) {I:Hp} {w0:World} (v0_0:Value) (v0_1:Value) (v0_2:Value) (v0_3:Value) (r0_0:(ah 179 (aI (ah 3 ba) (ah 172 (aI ba (aI ba (aI ba ba)))))).rd I [v0_0] x0.1.2) (r0_1:(ah 184 (aI ba (aI (ah 4 nZ) (ah 91 (ah 3 ba))))).rd I [v0_1] x0.2.1.1) (r0_2:(ah 187 (aI ba (aI (ah 163 (aI ba (aI ba (aI ba ba)))) ba))).rd I [v0_2] x0.2.1.2) (r0_3:(ah 133 (aI ba (aI ba ba))).rd I [v0_3] x0.2.2.1) (hL:Lay Tryz.prog I):Con Tryz.prog 5 #[.agg #[.int .i64 x0.1.1,v0_0,v0_1,v0_2,v0_3,.string x0.2.2.2]] I w0 [] (fun v=>v= .bool r) (fun _=>[]):=fun w C hs =>
 ((R.nR).con w0 I [.agg #[.int .i64 x0.1.1,v0_0,v0_1,v0_2,v0_3,.string x0.2.2.2]] (x0,()) r hL ⟨_,_,rfl,⟨[.int .i64 x0.1.1,v0_0,v0_1,v0_2,v0_3,.string x0.2.2.2],rfl,⟨_,_,rfl,⟨_,_,rfl,rfl,r0_0⟩,⟨_,_,rfl,⟨_,_,rfl,r0_1,r0_2⟩,⟨_,_,rfl,r0_3,rfl⟩⟩⟩⟩,rfl⟩ hm w C hs).mono fun e w' ⟨v,he,_,hst⟩=>by
  obtain ⟨h1,h2⟩:=R.uX (h1:=fun _=>rfl) (show St I w0 w' (Ch.own R.Ty.bool.rep [v] r::C) from hst)
  exact ⟨v,he,(List.cons.inj h1).1,h2⟩
end D
namespace D
open Go.RowKit
end D
namespace D
open Go.RowKit
end D
namespace D
open Go.RowKit
end D
namespace D
open Go.RowKit
end D
namespace D
open Go.RowKit
end D
namespace D
open Go.RowKit
def I64 (n:Int):Prop:= -9223372036854775808<=n/\n<=9223372036854775807
class Data (α:Type) where
 lim:α->Prop
 sm:α->Prop
instance:Data Int:=⟨I64,fun _=>True⟩
instance:Data Bool:=⟨fun _=>True,fun _=>True⟩
instance:Data ByteArray:=⟨fun s=>s.size<=9223372036854775807,fun s=>s.size<=1048576⟩
instance {α β:Type} [Data α] [Data β] :Data (α×β):=⟨fun x=>Data.lim x.1/\Data.lim x.2,fun x=>Data.sm x.1/\Data.sm x.2⟩
instance {α:Type} [Data α] :Data (List α):=⟨fun xs=>xs.length<=9223372036854775807/\ ∀x,x∈xs->Data.lim x,fun xs=>xs.length<=1048576/\ ∀x,x∈xs->Data.sm x⟩
structure Opens (P:Program) (t:TypeId) {α:Type} [Data α] (R:Rep α):Prop where
 out: ∀ {H:Type} (enc:TypeId×Value->H) (w:World) (fuel:Nat) (cs:List Value) (x:DataW H×List MemPlace),DataW.trod enc P w 0 (fun _=>true) true fuel t cs=some x-> ∃a:α,R.rd (hp w) cs a/\Data.lim a
theorem NY {P:Program} {t:TypeId} (h:P.underlying t=some (.int .i64)):Opens P t ba:=by
 constructor
 intro H enc w fuel cs x hx
 obtain ⟨n,rfl,-,hw⟩:=DataW.trod_int h hx
 refine ⟨n,rfl,show I64 n from ?_⟩
 simp[Lit.wf,IntKind.min,IntKind.max,IntKind.signed,IntKind.bits] at hw
 unfold I64
 omega
theorem K7 {P:Program} {t:TypeId} (h:P.underlying t=some .bool):Opens P t nZ:=by
 constructor
 intro H enc w fuel cs x hx
 obtain ⟨n,rfl,-⟩:=DataW.trod_bool h hx
 exact ⟨n,rfl,trivial⟩
theorem Gl {P:Program} {t:TypeId} (h:P.underlying t=some .string):Opens P t CP:=by
 constructor
 intro H enc w fuel cs x hx
 obtain ⟨n,rfl,-,hm⟩:=DataW.trod_string h hx
 exact ⟨n,rfl,show n.size<=_ by unfold maxLen at hm;omega⟩
theorem gk {P:Program} {t e:TypeId} {α:Type} [Data α] {R:Rep α} {E:TypeId} (h:P.underlying t=some (.slice e)) (hc:P.cellsOf e=R.size) (h0:0<R.size) (he:Opens P e R):Opens P t (ah E R):=by
 constructor
 intro H enc w fuel cs x hx
 rcases Go.Deep.open_slice h hx with ⟨rfl,-⟩ | ⟨a,len,cap,m,n,D,Pl,rfl,-,hl,hm,hmm,-,hel⟩
 ·exact ⟨[],⟨none,0,rfl,by simp,.inl rfl⟩,Nat.zero_le _,fun x hx=>by cases hx⟩
 have hlm:m=cap:=by simpa using hmm
 subst hlm
 rw[hc] at hel
 by_cases hz:len=0
 ·subst hz
  exact ⟨[],⟨some a,m,rfl,by simp,.inl rfl⟩,Nat.zero_le _,fun x hx=>by cases hx⟩
 ·have hone: ∀i,i<len-> ∃c:List Value,∃y:α,c.length=R.size/\(∀j,j<R.size->w.cell? ((a.add (i*R.size)).add j)=c[j]?)/\R.rd (hp w) c y/\Data.lim y:=by
   intro i hi
   obtain ⟨c,h1,h2⟩:=hel i (by omega)
   obtain ⟨-,h3,h4⟩:=World.cells?_some h1
   obtain ⟨y,hy⟩:=he.out enc w _ _ _ h2
   exact ⟨c,y,h3,h4,hy⟩
  obtain ⟨c0,y0,hc0,hr0,-⟩:=hone 0 (by omega)
  have h00:=hr0 0 h0
  have hsome: ∃v,c0[0]? =some v:=⟨_,List.getElem?_eq_getElem (by omega)⟩
  obtain ⟨v,hv⟩:=hsome
  rw[hv] at h00
  have ha:(a.add (0*R.size)).add 0=a:=by simp[Addr.add]
  rw[ha] at h00
  obtain ⟨b,off,spot⟩:=a
  have hb: ∃ccs T fr,w.heap[b]? =some (.cells ccs T fr)/\spot=none:=by
   simp only[World.cell?] at h00
   split at h00
   ·rename_i ccs T fr heq
    cases spot with
    | none=>exact ⟨ccs,T,fr,heq,rfl⟩
    | some s=>simp at h00
   ·simp at h00
  obtain ⟨ccs,T,fr,hh,rfl⟩:=hb
  have hadd: ∀i j,(Addr.add ⟨b,off,none⟩ i).add j=⟨b,off+i+j,none⟩:=by
   intro i j
   by_cases h1:i=0 <;> by_cases h2:j=0 <;> simp[Addr.add,h1,h2,Nat.add_assoc]
  haveI:Inhabited α:=⟨y0⟩
  obtain ⟨X,hX⟩:=Go.Deep.choose_lt (α:=α) (n:=len) (p:=fun i y=> ∃c:List Value,c.length=R.size/\(∀j,j<R.size->ccs.toList[off+i*R.size+j]? =c[j]?)/\R.rd (hp w) c y/\Data.lim y) (fun i hi=>by
   obtain ⟨c,y,h1,h2,h3⟩:=hone i hi
   refine ⟨y,c,h1,fun j hj=>?_,h3⟩
   have:=h2 j hj
   rw[hadd] at this
   simp only[World.cell?,hh] at this
   simpa using this)
  have hlen:((List.range len).map X).length=len:=by simp
  have hel2: ∀i y,((List.range len).map X)[i]? =some y->i<len/\y=X i:=fun i y hy=>by
   have hi:i<len:=by have:=(List.getElem?_eq_some_iff.1 hy).1;omega
   exact ⟨hi,by simpa [hi] using hy.symm⟩
  refine ⟨(List.range len).map X,⟨some ⟨b,off,none⟩,m,by rw[hlen],by rw[hlen];unfold maxLen at hm;unfold lim;omega,.inr ⟨b,off,ccs,T,fr,rfl,hh,fun i y hy=>?_⟩⟩,by rw[hlen];unfold maxLen at hm;omega,fun y hy=>?_⟩
  ·obtain ⟨hi,rfl⟩:=hel2 i y hy
   obtain ⟨c,e1,e2,e3,-⟩:=hX i hi
   exact ⟨c,e1,e2,e3⟩
  ·obtain ⟨i,hi,he⟩:=List.mem_iff_getElem?.1 hy |>.imp fun i hi=>hel2 i y hi
   obtain ⟨-,-,-,-,e4⟩:=hX i hi
   rw[he];exact e4
structure OpensFs (P:Program) (fs:List Field) (o:Nat) {α:Type} [Data α] (R:Rep α):Prop where
 out: ∀ {H:Type} (enc:TypeId×Value->H) (w:World) (fuel:Nat) (cs:List Value),cs.length=o+R.size->
  (∀f∈fs,∃x,DataW.trod enc P w 0 (fun _=>true) true fuel f.type ((cs.drop f.offset).take (P.cellsOf f.type))=some x)-> ∃a:α,R.rd (hp w) (cs.drop o) a/\Data.lim a
theorem gB {P:Program} {f:Field} {o:Nat} {α:Type} [Data α] {R:Rep α} (ho:f.offset=o) (hc:P.cellsOf f.type=R.size) (h:Opens P f.type R):OpensFs P [f] o R:=by
 constructor
 intro H enc w fuel cs hl hx
 obtain ⟨x,hx⟩:=hx f (by simp)
 rw[ho,hc,List.take_of_length_le (by rw[aV];omega)] at hx
 exact h.out enc w _ _ _ hx
theorem cj {P:Program} {f:Field} {fs:List Field} {o:Nat} {α β:Type} [Data α] [Data β] {R:Rep α} {S:Rep β} (ho:f.offset=o) (hc:P.cellsOf f.type=R.size) (h:Opens P f.type R) (hs:OpensFs P fs (o+R.size) S):OpensFs P (f::fs) o (aI R S):=by
 constructor
 intro H enc w fuel cs hl hx
 have hl':cs.length=o+(R.size+S.size):=hl
 obtain ⟨b,hb,hlb⟩:=hs.out enc w fuel cs (by omega) (fun g hg=>hx g (by simp[hg]))
 obtain ⟨x,hx⟩:=hx f (by simp)
 rw[ho,hc] at hx
 obtain ⟨a,ha,hla⟩:=h.out enc w _ _ _ hx
 refine ⟨(a,b),⟨(cs.drop o).take R.size,cs.drop (o+R.size),?_,ha,hb⟩,hla,hlb⟩
 rw[<-List.drop_drop,List.take_append_drop]
theorem dJ {P:Program} {t:TypeId} {fs:Array Field} {α:Type} [Data α] {R:Rep α} (h:P.underlying t=some (.struct fs)) (hc:P.cellsOf t=R.size) (hf:OpensFs P fs.toList 0 R):Opens P t R:=by
 constructor
 intro H enc w fuel cs x hx
 obtain ⟨xs,n,-,-,hl,hn,hel⟩:=DataW.trod_struct h hx
 have:=hf.out enc w n cs (by omega) (fun f hm=>by
  obtain ⟨i,hi,rfl⟩:=List.getElem_of_mem hm
  have h1:fs[i]? =some fs.toList[i]:=by simp
  exact ⟨_,(hel i _ h1).trans (List.getElem?_eq_getElem (by simp at hi;omega))⟩)
 simpa using this
theorem St.below {w0 w:World} {cs:List Ch} (h:St (hp w0) w0 w cs):Below w0.heap.size w0 w:=by
 obtain ⟨⟨h1,h2,h3,h4⟩,h5,-⟩:=h
 refine ⟨h1,h2,h3,h4,fun b hb=>?_⟩
 have e:w0.heap[b]? =some w0.heap[b]:=Array.getElem?_eq_getElem hb
 rw[e];exact h5 b _ e
end D
namespace D
open Go.RowKit
theorem eY {n:Int} (h1: -9223372036854775808<=n) (h2:n<=9223372036854775807):IntKind.i64.wrap n=n:=by
 simp only[IntKind.wrap,IntKind.bits,IntKind.signed,Bool.true_and]
 split <;> rename_i h <;> simp at h <;> omega
theorem af {i:Nat} (h:i<9223372036854775807):IntKind.i64.wrap ((i:Int)+1)=((i+1:Nat):Int):=by
 rw[eY (by omega) (by omega)];rfl
theorem aF {α:Type} {xs:List α} {i:Nat} (h:i<xs.length):aQ xs (i:Int)=some (xs[i]):=by
 unfold aQ
 rw[if_pos (Int.natCast_nonneg _)]
 simp[h]
theorem bK {i n:Nat} (h:i<n):decide ((i:Int)<(n:Int))=true:=by simp[h]
theorem bm {n:Nat} :decide ((n:Int)<(n:Int))=false:=by simp
theorem dB (k:Nat) (h:k<=9223372036854775807):k<aW:=by unfold aW;omega
theorem vP {α:Type} {b n:Nat} {z:α} (h:n*b<=140737488355328):mkI b (n:Int) z=some (List.replicate n z):=by
 unfold mkI
 rw[if_pos ⟨Int.natCast_nonneg _,by simpa using h⟩];simp
theorem Gn {R S:Type} {f:S->Option (Out R S)} (inv:Nat->S) (N:Nat) (h: ∀i,i<N->f (inv i)=some (.nxt (inv (i+1)))): ∀(m i k:Nat),i+m=N->ax f (k+m) (inv i)=ax f k (inv N)
 | 0,i,k,e=>by rw[show i=N by omega];rfl
 | m+1,i,k,e=>by
  rw[<-Nat.add_assoc,ax,h i (by omega)]
  exact Gn inv N h m (i+1) k (by omega)
theorem Gp {R S:Type} {f:S->Option (Out R S)} (inv:Nat->S) (N:Nat) {s:S} (h: ∀i,i<N->f (inv i)=some (.nxt (inv (i+1)))) (he:f (inv N)=some (.brk s)) (hN:N<aW):ax f aW (inv 0)=some (.brk s):=by
 have e:aW=(aW - N - 1)+1+N:=by omega
 rw[e,Gn inv N h N 0 _ (by omega),ax,he]
theorem toL {R α:Type} {f:List α×Int->Option (Out R (List α×Int))} {z:α} (xs:List α) (hN:xs.length<=9223372036854775807)
  (hstep: ∀ys i (h:i<xs.length),ys.length=xs.length->f (ys,(i:Int))=some (.nxt (ys.set i xs[i],((i+1:Nat):Int)))) (hend: ∀ys,ys.length=xs.length->f (ys,(xs.length:Int))=some (.brk (ys,(xs.length:Int)))) :
  ax f aW (List.replicate xs.length z,0)=some (.brk (xs,(xs.length:Int))):=by
 have h0:(List.replicate xs.length z,(0:Int))=(fun i:Nat=>(xs.take i++(List.replicate xs.length z).drop i,(i:Int))) 0:=by simp
 rw[h0]
 refine Gp (fun i:Nat=>(xs.take i++(List.replicate xs.length z).drop i,(i:Int))) xs.length (fun i hi=>?_) ?_ (dB _ hN)
 ·have hl:(xs.take i++(List.replicate xs.length z).drop i).length=xs.length:=by
   rw[al,aE,aV,List.length_replicate];omega
  rw[hstep _ i hi hl]
  congr 3
  have ht:(xs.take i).length=i:=by rw[aE];omega
  rw[List.set_append_right _ _ (by omega),ht,Nat.sub_self,List.drop_eq_getElem_cons (by rw[List.length_replicate];exact hi),List.set_cons_zero,List.take_succ_eq_append_getElem hi,ai]
  rfl
 ·have:=hend xs rfl
  rw[List.take_of_length_le (aA _),List.drop_of_length_le (by rw[List.length_replicate];exact aA _),List.append_nil]
  exact this
def GP {α:Type} [Data α] (m:α->Int->Option Int):Prop:= ∀x l,Data.lim x->0<=l->l<=1048576-> ∃r,m x l=some r/\(r<0\/(0<=r/\r<=l/\Data.sm x))
def DV {α:Type} [Data α] (m:α->Option α):Prop:= ∀x,Data.sm x->m x=some x
def DW {α:Type} [Data α] [DecidableEq α] (m:α->α->Option Bool):Prop:= ∀x y,Data.sm x->Data.sm y->m x y=some (decide (x=y))
theorem Y9 {α:Type} [Data α] {f:Int×Int->Option yM } (xs:List α)
  (hstep: ∀i (h:i<xs.length) l,0<=l->l<=1048576-> ∃r,f (l,(i:Int))=some (if r<0 then .ret (-1) else .nxt (r,((i+1:Nat):Int)))/\(r<0\/(0<=r/\r<=l/\Data.sm xs[i])))
  (hend: ∀l,f (l,(xs.length:Int))=some (.brk (l,(xs.length:Int)))): ∀(m i k:Nat) (l:Int),i+m=xs.length->m<k->0<=l->l<=1048576->
   ax f k (l,(i:Int))=some (.ret (-1))\/ ∃r,ax f k (l,(i:Int))=some (.brk (r,(xs.length:Int)))/\0<=r/\r<=l/\ ∀j (h:j<xs.length),i<=j->Data.sm xs[j]
 | 0,i,k,l,e,hk,h0,h1=>by
  obtain ⟨k,rfl⟩: ∃q,k=q+1:=⟨k - 1,by omega⟩
  obtain rfl:i=xs.length:=by omega
  exact .inr ⟨l,by rw[ax,hend],h0,Int.le_refl _,fun j hj hi=>by omega⟩
 | m+1,i,k,l,e,hk,h0,h1=>by
  obtain ⟨k,rfl⟩: ∃q,k=q+1:=⟨k - 1,by omega⟩
  obtain ⟨r,e1,e2⟩:=hstep i (by omega) l h0 h1
  rw[ax,e1]
  rcases e2 with e2 | ⟨e2,e3,e4⟩
  ·rw[if_pos e2];exact .inl rfl
  ·rw[if_neg (by omega)]
   rcases Y9 xs hstep hend m (i+1) k r (by omega) (by omega) e2 (by omega) with h | ⟨q,g1,g2,g3,g4⟩
   ·exact .inl h
   ·refine .inr ⟨q,g1,g2,by omega,fun j hj hi=>?_⟩
    by_cases hji:j=i
    ·subst hji;exact e4
    ·exact g4 j hj (by omega)
theorem szL {α:Type} [Data α] {f:Int×Int->Option yM } (xs:List α) {l:Int} (hN:xs.length<=9223372036854775807)
  (hstep: ∀i (h:i<xs.length) l,0<=l->l<=1048576-> ∃r,f (l,(i:Int))=some (if r<0 then .ret (-1) else .nxt (r,((i+1:Nat):Int)))/\(r<0\/(0<=r/\r<=l/\Data.sm xs[i])))
  (hend: ∀l,f (l,(xs.length:Int))=some (.brk (l,(xs.length:Int)))) (h0:0<=l) (h1:l<=1048576) :
  ∃r,(if decide (IntKind.i64.wrap (l - (xs.length:Int))<0) then (some (-1)) else (aP (ax f aW (IntKind.i64.wrap (l - (xs.length:Int)),0)) (fun r=>some r) (fun s4=>some s4.1)))=some r/\(r<0\/(0<=r/\r<=l/\Data.sm xs)):=by
 rw[eY (by omega) (by omega)]
 by_cases h:l - (xs.length:Int)<0
 ·exact ⟨-1,by rw[if_pos (decide_eq_true h)],.inl (by decide)⟩
 ·rw[if_neg (by simpa using h)]
  rcases Y9 xs hstep hend xs.length 0 aW (l - xs.length) (by omega) (dB _ hN) (by omega) (by omega) with e | ⟨r,e,g1,g2,g3⟩
  ·exact ⟨-1,by rw[show ((0:Int))=((0:Nat):Int) from rfl,e];rfl,.inl (by decide)⟩
  ·refine ⟨r,by rw[show ((0:Int))=((0:Nat):Int) from rfl,e];rfl,.inr ⟨g1,by omega,by omega,fun x hx=>?_⟩⟩
   obtain ⟨j,hj,rfl⟩:=List.getElem_of_mem hx
   exact g3 j hj (Nat.zero_le _)
theorem szF {α:Type} [Data α] (xs:List α) {l:Int} (hN:xs.length<=9223372036854775807) (hf: ∀x:α,Data.sm x) (h0:0<=l) (h1:l<=1048576) :
  ∃r,(if decide (IntKind.i64.wrap (l - (xs.length:Int))<0) then (some (-1)) else (some (IntKind.i64.wrap (l - (xs.length:Int)))))=some r/\(r<0\/(0<=r/\r<=l/\Data.sm xs)):=by
 rw[eY (by omega) (by omega)]
 by_cases h:l - (xs.length:Int)<0
 ·exact ⟨-1,by rw[if_pos (decide_eq_true h)],.inl (by decide)⟩
 ·exact ⟨_,by rw[if_neg (by simpa using h)],.inr ⟨by omega,by omega,by omega,fun x _=>hf x⟩⟩
theorem Yq {α:Type} [DecidableEq α] {f:Int->Option (Out Bool Int)} (xs ys:List α) (hl:xs.length=ys.length)
  (hstep: ∀i (h:i<xs.length) (h':i<ys.length),f (i:Int)=some (if xs[i] =ys[i] then .nxt ((i+1:Nat):Int) else .ret false)) (hend:f (xs.length:Int)=some (.brk (xs.length:Int))): ∀(m i k:Nat),i+m=xs.length->m<k->
   ax f k (i:Int)=some (if xs.drop i=ys.drop i then .brk (xs.length:Int) else .ret false)
 | 0,i,k,e,hk=>by
  obtain ⟨k,rfl⟩: ∃q,k=q+1:=⟨k - 1,by omega⟩
  obtain rfl:i=xs.length:=by omega
  rw[ax,hend,List.drop_of_length_le (aA _),List.drop_of_length_le (by omega),if_pos rfl]
 | m+1,i,k,e,hk=>by
  obtain ⟨k,rfl⟩: ∃q,k=q+1:=⟨k - 1,by omega⟩
  have hi:i<xs.length:=by omega
  have hi':i<ys.length:=by omega
  have d1:=List.drop_eq_getElem_cons hi
  have d2:=List.drop_eq_getElem_cons hi'
  rw[ax,hstep i hi hi',d1,d2]
  by_cases h:xs[i] =ys[i]
  ·rw[if_pos h]
   simp only
   rw[Yq xs ys hl hstep hend m (i+1) k (by omega) (by omega)]
   simp only[List.cons.injEq,h,true_and]
  ·rw[if_neg h]
   simp only[List.cons.injEq,h,false_and,if_false]
theorem eqL {α:Type} [DecidableEq α] {f:Int->Option (Out Bool Int)} (xs ys:List α) (hN:xs.length<=9223372036854775807)
  (hstep: ∀i (h:i<xs.length) (h':i<ys.length),f (i:Int)=some (if xs[i] =ys[i] then .nxt ((i+1:Nat):Int) else .ret false)) (hend:f (xs.length:Int)=some (.brk (xs.length:Int))) :
  (if (xs.length:Int) !=(ys.length:Int) then (some false) else (aP (ax f aW 0) (fun r=>some r) (fun s4=>some true)))=some (decide (xs=ys)):=by
 by_cases hl:xs.length=ys.length
 ·rw[if_neg (by rw[hl];simp),show ((0:Int))=((0:Nat):Int) from rfl,Yq xs ys hl hstep hend xs.length 0 aW (by omega) (dB _ hN)]
  by_cases h:xs=ys
  ·subst h;simp[aP]
  ·simp[aP,h]
 ·have:xs≠ys:=fun e=>hl (by rw[e])
  rw[if_pos (by simp;omega)];simp[this]
theorem fH {α:Type} {c d:Prop} [Decidable c] [Decidable d] {a b:α} (h:c↔d):(if c then some a else some b)=some (if d then a else b):=by
 by_cases k:c
 ·rw[if_pos k,if_pos (h.1 k)]
 ·rw[if_neg k,if_neg (fun e=>k (h.2 e))]
theorem qk {α:Type} {c d:Prop} [Decidable c] [Decidable d] {a b:α} (h:c↔ ¬d):(if c then some b else some a)=some (if d then a else b):=by
 by_cases k:d
 ·rw[if_neg (fun e=>h.1 e k),if_pos k]
 ·rw[if_pos (h.2 k),if_neg k]
theorem eqB {α:Type} [DecidableEq α] {f:Int->Option (Out Bool Int)} {K:Option Bool} (xs ys:List α) (hN:xs.length<=9223372036854775807) (hl:xs.length=ys.length)
  (hstep: ∀i (h:i<xs.length) (h':i<ys.length),f (i:Int)=some (if xs[i] =ys[i] then .nxt ((i+1:Nat):Int) else .ret false)) (hend:f (xs.length:Int)=some (.brk (xs.length:Int))) :
  aP (ax f aW 0) (fun r=>some r) (fun s4=>K)=(if xs=ys then K else some false):=by
 rw[show ((0:Int))=((0:Nat):Int) from rfl,Yq xs ys hl hstep hend xs.length 0 aW (by omega) (dB _ hN)]
 by_cases h:xs=ys
 ·subst h;simp[aP]
 ·simp[aP,h]
theorem W2 {f:Int->Option (Out Int Int)} (xs ys:List Int)
  (hstep: ∀i (h:i<xs.length) (h':i<ys.length),f (i:Int)=some (if xs[i] < ys[i] then .ret (-1) else if xs[i] > ys[i] then .ret 1 else .nxt ((i+1:Nat):Int))) (hend: ∀i,xs.length<=i\/ys.length<=i->f (i:Int)=some (.brk (i:Int))): ∀(m i k:Nat),i+m=xs.length->m<k->
   (∃r,ax f k (i:Int)=some (.ret r)/\r≠0/\xs≠ys)\/ ∃s,ax f k (i:Int)=some (.brk s)/\(xs.length=ys.length->xs.drop i=ys.drop i)
 | 0,i,k,e,hk=>by
  obtain ⟨k,rfl⟩: ∃q,k=q+1:=⟨k - 1,by omega⟩
  exact .inr ⟨_,by rw[ax,hend i (.inl (by omega))],fun h=>by rw[List.drop_of_length_le (by omega),List.drop_of_length_le (by omega)]⟩
 | m+1,i,k,e,hk=>by
  obtain ⟨k,rfl⟩: ∃q,k=q+1:=⟨k - 1,by omega⟩
  have hi:i<xs.length:=by omega
  by_cases hi':i<ys.length
  ·have hne: ∀h:xs[i] ≠ys[i],xs≠ys:=fun h e=>h (by subst e;rfl)
   rw[ax,hstep i hi hi']
   by_cases h1:xs[i] < ys[i]
   ·rw[if_pos h1];exact .inl ⟨-1,rfl,by decide,hne (by omega)⟩
   ·rw[if_neg h1]
    by_cases h2:xs[i] > ys[i]
    ·rw[if_pos h2];exact .inl ⟨1,rfl,by decide,hne (by omega)⟩
    ·rw[if_neg h2]
     rcases W2 xs ys hstep hend m (i+1) k (by omega) (by omega) with h | ⟨s,g1,g2⟩
     ·exact .inl h
     ·refine .inr ⟨s,g1,fun hl=>?_⟩
      have h3:xs[i] =ys[i]:=by omega
      rw[List.drop_eq_getElem_cons hi,List.drop_eq_getElem_cons hi',g2 hl,h3]
  ·exact .inr ⟨_,by rw[ax,hend i (.inr (by omega))],fun h=>by omega⟩
instance:LawfulBEq ByteArray where
 eq_of_beq {a b} h:=ByteArray.ext (eq_of_beq (show (a.data==b.data)=true from h))
 rfl {a}:=beq_self_eq_true a.data
theorem Za {α β γ δ:Type} {a b:α×β×γ×δ} :(a.1=b.1/\a.2.1=b.2.1/\a.2.2.1=b.2.2.1/\a.2.2.2=b.2.2.2)↔a=b:=by rw[Prod.ext_iff,Prod.ext_iff,Prod.ext_iff]
theorem dC {α β:Type} (p:α×β):(p.1,p.2)=p:=rfl
theorem aG {α:Type} [Data α] {xs:List α} (h:Data.sm xs):xs.length<=1048576/\ ∀x,x∈xs->Data.sm x:=h
theorem eU {α:Type} [Data α] {xs:List α} (h:Data.lim xs):xs.length<=9223372036854775807/\ ∀x,x∈xs->Data.lim x:=h
end D
set_option synthInstance.maxSize 20000
set_option synthInstance.maxHeartbeats 2000000
namespace D
open Go.RowKit
theorem JG:GP sy:=fun xs l hl h0 h1=>szF xs (eU hl).1 (fun _=>trivial) h0 h1
theorem NZ:GP tY:=fun xs l hl h0 h1=>szF xs (eU hl).1 (fun _=>⟨trivial,trivial,trivial,trivial⟩) h0 h1
theorem N1:GP pT:=by
 intro x l hl h0 h1
 unfold pT
 try simp only[dC]
 obtain ⟨r1,e1,k1⟩:=JG x.1 l hl.1 (by omega) (by omega)
 rw[e1];simp only[aa]
 rcases k1 with k1 | ⟨k1,j1,s1⟩
 ·exact ⟨-1,by rw[if_pos (decide_eq_true k1)],.inl (by decide)⟩
 rw[if_neg (by simpa using k1)]
 obtain ⟨r2,e2,k2⟩:=NZ x.2 r1 hl.2 (by omega) (by omega)
 rw[e2];simp only[aa]
 rcases k2 with k2 | ⟨k2,j2,s2⟩
 ·exact ⟨-1,by rw[if_pos (decide_eq_true k2)],.inl (by decide)⟩
 rw[if_neg (by simpa using k2)]
 exact ⟨_,rfl,.inr ⟨by omega,by omega,⟨s1,s2⟩⟩⟩
theorem K8:GP rr:=fun xs l hl h0 h1=>szL (f:=kc xs) xs (eU hl).1 (fun i h l k0 k1=>by
 obtain ⟨r,e,hr⟩:=N1 xs[i] l ((eU hl).2 _ (List.getElem_mem h)) k0 k1
 refine ⟨r,?_,hr⟩
 simp only[kc,bK h,if_true,aF h,aa,dC,e,af (show i<9223372036854775807 by have:=(eU hl).1;omega)]
 exact fH (by simp)) (fun l=>by simp only[kc,bm];rfl) h0 h1
theorem Ie:GP mF:=by
 intro x l hl h0 h1
 unfold mF
 try simp only[dC]
 obtain ⟨r1,e1,k1⟩:=K8 x.2 l hl.2 (by omega) (by omega)
 rw[e1];simp only[aa]
 rcases k1 with k1 | ⟨k1,j1,s1⟩
 ·exact ⟨-1,by rw[if_pos (decide_eq_true k1)],.inl (by decide)⟩
 rw[if_neg (by simpa using k1)]
 exact ⟨_,rfl,.inr ⟨by omega,by omega,⟨trivial,s1⟩⟩⟩
theorem N2:GP tZ:=fun xs l hl h0 h1=>szF xs (eU hl).1 (fun _=>trivial) h0 h1
theorem N3:GP ua:=fun xs l hl h0 h1=>szL (f:=lx xs) xs (eU hl).1 (fun i h l k0 k1=>by
 obtain ⟨r,e,hr⟩:=JG xs[i] l ((eU hl).2 _ (List.getElem_mem h)) k0 k1
 refine ⟨r,?_,hr⟩
 simp only[lx,bK h,if_true,aF h,aa,dC,e,af (show i<9223372036854775807 by have:=(eU hl).1;omega)]
 exact fH (by simp)) (fun l=>by simp only[lx,bm];rfl) h0 h1
theorem DX:GP kd:=by
 intro x l hl h0 h1
 unfold kd
 try simp only[dC]
 obtain ⟨r1,e1,k1⟩:=N2 x.2.1 l hl.2.1 (by omega) (by omega)
 rw[e1];simp only[aa]
 rcases k1 with k1 | ⟨k1,j1,s1⟩
 ·exact ⟨-1,by rw[if_pos (decide_eq_true k1)],.inl (by decide)⟩
 rw[if_neg (by simpa using k1)]
 obtain ⟨r2,e2,k2⟩:=N3 x.2.2 r1 hl.2.2 (by omega) (by omega)
 rw[e2];simp only[aa]
 rcases k2 with k2 | ⟨k2,j2,s2⟩
 ·exact ⟨-1,by rw[if_pos (decide_eq_true k2)],.inl (by decide)⟩
 rw[if_neg (by simpa using k2)]
 exact ⟨_,rfl,.inr ⟨by omega,by omega,⟨trivial,s1,s2⟩⟩⟩
theorem BE:GP mi:=fun xs l hl h0 h1=>szL (f:=fR xs) xs (eU hl).1 (fun i h l k0 k1=>by
 obtain ⟨r,e,hr⟩:=DX xs[i] l ((eU hl).2 _ (List.getElem_mem h)) k0 k1
 refine ⟨r,?_,hr⟩
 simp only[fR,bK h,if_true,aF h,aa,dC,e,af (show i<9223372036854775807 by have:=(eU hl).1;omega)]
 exact fH (by simp)) (fun l=>by simp only[fR,bm];rfl) h0 h1
theorem K9:GP ru:=fun xs l hl h0 h1=>szF xs (eU hl).1 (fun _=>⟨trivial,trivial,trivial,trivial⟩) h0 h1
theorem Rk:GP sA:=by
 intro x l hl h0 h1
 unfold sA
 try simp only[dC]
 obtain ⟨r1,e1,k1⟩:=K9 x l hl (by omega) (by omega)
 rw[e1];simp only[aa]
 rcases k1 with k1 | ⟨k1,j1,s1⟩
 ·exact ⟨-1,by rw[if_pos (decide_eq_true k1)],.inl (by decide)⟩
 rw[if_neg (by simpa using k1)]
 exact ⟨_,rfl,.inr ⟨by omega,by omega,s1⟩⟩
theorem BF:GP jf:=by
 intro x l hl h0 h1
 unfold jf
 try simp only[dC]
 obtain ⟨r1,e1,k1⟩:=Rk x.2.1 l hl.2.1 (by omega) (by omega)
 rw[e1];simp only[aa]
 rcases k1 with k1 | ⟨k1,j1,s1⟩
 ·exact ⟨-1,by rw[if_pos (decide_eq_true k1)],.inl (by decide)⟩
 rw[if_neg (by simpa using k1)]
 exact ⟨_,rfl,.inr ⟨by omega,by omega,⟨trivial,s1,trivial⟩⟩⟩
theorem AO:GP kU:=fun xs l hl h0 h1=>szL (f:=fe xs) xs (eU hl).1 (fun i h l k0 k1=>by
 obtain ⟨r,e,hr⟩:=BF xs[i] l ((eU hl).2 _ (List.getElem_mem h)) k0 k1
 refine ⟨r,?_,hr⟩
 simp only[fe,bK h,if_true,aF h,aa,dC,e,af (show i<9223372036854775807 by have:=(eU hl).1;omega)]
 exact fH (by simp)) (fun l=>by simp only[fe,bm];rfl) h0 h1
theorem Gq:GP lz:=by
 intro x l hl h0 h1
 unfold lz
 try simp only[dC]
 obtain ⟨r1,e1,k1⟩:=BE x.1 l hl.1 (by omega) (by omega)
 rw[e1];simp only[aa]
 rcases k1 with k1 | ⟨k1,j1,s1⟩
 ·exact ⟨-1,by rw[if_pos (decide_eq_true k1)],.inl (by decide)⟩
 rw[if_neg (by simpa using k1)]
 obtain ⟨r2,e2,k2⟩:=AO x.2 r1 hl.2 (by omega) (by omega)
 rw[e2];simp only[aa]
 rcases k2 with k2 | ⟨k2,j2,s2⟩
 ·exact ⟨-1,by rw[if_pos (decide_eq_true k2)],.inl (by decide)⟩
 rw[if_neg (by simpa using k2)]
 exact ⟨_,rfl,.inr ⟨by omega,by omega,⟨s1,s2⟩⟩⟩
theorem AP:GP kV:=fun xs l hl h0 h1=>szF xs (eU hl).1 (fun _=>⟨trivial,trivial,trivial⟩) h0 h1
theorem La:GP oh:=by
 intro x l hl h0 h1
 unfold oh
 try simp only[dC]
 obtain ⟨r1,e1,k1⟩:=Ie x.1 l hl.1 (by omega) (by omega)
 rw[e1];simp only[aa]
 rcases k1 with k1 | ⟨k1,j1,s1⟩
 ·exact ⟨-1,by rw[if_pos (decide_eq_true k1)],.inl (by decide)⟩
 rw[if_neg (by simpa using k1)]
 obtain ⟨r2,e2,k2⟩:=Gq x.2.1 r1 hl.2.1 (by omega) (by omega)
 rw[e2];simp only[aa]
 rcases k2 with k2 | ⟨k2,j2,s2⟩
 ·exact ⟨-1,by rw[if_pos (decide_eq_true k2)],.inl (by decide)⟩
 rw[if_neg (by simpa using k2)]
 obtain ⟨r3,e3,k3⟩:=AP x.2.2.1 r2 hl.2.2.1 (by omega) (by omega)
 rw[e3];simp only[aa]
 rcases k3 with k3 | ⟨k3,j3,s3⟩
 ·exact ⟨-1,by rw[if_pos (decide_eq_true k3)],.inl (by decide)⟩
 rw[if_neg (by simpa using k3)]
 rw[eY (by have:x.2.2.2.size<=9223372036854775807:=hl.2.2.2;omega) (by omega)]
 by_cases k4:r3 - (x.2.2.2.size:Int)<0
 ·exact ⟨-1,by rw[if_pos (decide_eq_true k4)],.inl (by decide)⟩
 rw[if_neg (by simpa using k4)]
 have s4:x.2.2.2.size<=1048576:=by omega
 exact ⟨_,rfl,.inr ⟨by omega,by omega,⟨s1,s2,s3,s4⟩⟩⟩
theorem JH:DV o8:=by
 intro xs hx
 have hn:=(aG hx).1
 unfold o8
 rw[vP (by omega)];simp only[aa]
 rw[toL (f:=mH xs) xs (by omega) (fun ys i h hy=>by simp only[mH,bK h,if_true,aF h,aF (show i<ys.length by omega),aa,dC,af (show i<9223372036854775807 by omega),Int.toNat_natCast]) (fun ys hy=>by simp only[mH,bm];rfl)]
 rfl
theorem Rl:DV sC:=by
 intro x hx
 unfold sC
 simp only[dC,aa]
theorem N4:DV pV:=by
 intro xs hx
 have hn:=(aG hx).1
 unfold pV
 rw[vP (by omega)];simp only[aa]
 rw[toL (f:=lF xs) xs (by omega) (fun ys i h hy=>by simp only[lF,bK h,if_true,aF h,aF (show i<ys.length by omega),aa,dC,Rl xs[i] ((aG hx).2 _ (List.getElem_mem h)),af (show i<9223372036854775807 by omega),Int.toNat_natCast]) (fun ys hy=>by simp only[lF,bm];rfl)]
 rfl
theorem N5:DV pW:=by
 intro x hx
 unfold pW
 simp only[dC,aa,JH x.1 hx.1,N4 x.2 hx.2]
theorem Lb:DV oq:=by
 intro xs hx
 have hn:=(aG hx).1
 unfold oq
 rw[vP (by omega)];simp only[aa]
 rw[toL (f:=kj xs) xs (by omega) (fun ys i h hy=>by simp only[kj,bK h,if_true,aF h,aF (show i<ys.length by omega),aa,dC,N5 xs[i] ((aG hx).2 _ (List.getElem_mem h)),af (show i<9223372036854775807 by omega),Int.toNat_natCast]) (fun ys hy=>by simp only[kj,bm];rfl)]
 rfl
theorem If:DV mI:=by
 intro x hx
 unfold mI
 simp only[dC,aa,Lb x.2 hx.2]
theorem N6:DV pX:=by
 intro xs hx
 have hn:=(aG hx).1
 unfold pX
 rw[vP (by omega)];simp only[aa]
 rw[toL (f:=lG xs) xs (by omega) (fun ys i h hy=>by simp only[lG,bK h,if_true,aF h,aF (show i<ys.length by omega),aa,dC,af (show i<9223372036854775807 by omega),Int.toNat_natCast]) (fun ys hy=>by simp only[lG,bm];rfl)]
 rfl
theorem N7:DV pY:=by
 intro xs hx
 have hn:=(aG hx).1
 unfold pY
 rw[vP (by omega)];simp only[aa]
 rw[toL (f:=lH xs) xs (by omega) (fun ys i h hy=>by simp only[lH,bK h,if_true,aF h,aF (show i<ys.length by omega),aa,dC,JH xs[i] ((aG hx).2 _ (List.getElem_mem h)),af (show i<9223372036854775807 by omega),Int.toNat_natCast]) (fun ys hy=>by simp only[lH,bm];rfl)]
 rfl
theorem DY:DV kl:=by
 intro x hx
 unfold kl
 simp only[dC,aa,N6 x.2.1 hx.2.1,N7 x.2.2 hx.2.2]
theorem BG:DV ji:=by
 intro xs hx
 have hn:=(aG hx).1
 unfold ji
 rw[vP (by omega)];simp only[aa]
 rw[toL (f:=fV xs) xs (by omega) (fun ys i h hy=>by simp only[fV,bK h,if_true,aF h,aF (show i<ys.length by omega),aa,dC,DY xs[i] ((aG hx).2 _ (List.getElem_mem h)),af (show i<9223372036854775807 by omega),Int.toNat_natCast]) (fun ys hy=>by simp only[fV,bm];rfl)]
 rfl
theorem N8:DV pZ:=by
 intro x hx
 unfold pZ
 simp only[dC,aa]
theorem Lc:DV ot:=by
 intro xs hx
 have hn:=(aG hx).1
 unfold ot
 rw[vP (by omega)];simp only[aa]
 rw[toL (f:=km xs) xs (by omega) (fun ys i h hy=>by simp only[km,bK h,if_true,aF h,aF (show i<ys.length by omega),aa,dC,N8 xs[i] ((aG hx).2 _ (List.getElem_mem h)),af (show i<9223372036854775807 by omega),Int.toNat_natCast]) (fun ys hy=>by simp only[km,bm];rfl)]
 rfl
theorem Rm:DV sD:=by
 intro x hx
 unfold sD
 simp only[dC,aa,Lc x hx]
theorem BH:DV jj:=by
 intro x hx
 unfold jj
 simp only[dC,aa,Rm x.2.1 hx.2.1]
theorem AQ:DV iB:=by
 intro xs hx
 have hn:=(aG hx).1
 unfold iB
 rw[vP (by omega)];simp only[aa]
 rw[toL (f:=fh xs) xs (by omega) (fun ys i h hy=>by simp only[fh,bK h,if_true,aF h,aF (show i<ys.length by omega),aa,dC,BH xs[i] ((aG hx).2 _ (List.getElem_mem h)),af (show i<9223372036854775807 by omega),Int.toNat_natCast]) (fun ys hy=>by simp only[fh,bm];rfl)]
 rfl
theorem Gr:DV lI:=by
 intro x hx
 unfold lI
 simp only[dC,aa,BG x.1 hx.1,AQ x.2 hx.2]
theorem BI:DV jk:=by
 intro x hx
 unfold jk
 simp only[dC,aa]
theorem AR:DV iC:=by
 intro xs hx
 have hn:=(aG hx).1
 unfold iC
 rw[vP (by omega)];simp only[aa]
 rw[toL (f:=fj xs) xs (by omega) (fun ys i h hy=>by simp only[fj,bK h,if_true,aF h,aF (show i<ys.length by omega),aa,dC,BI xs[i] ((aG hx).2 _ (List.getElem_mem h)),af (show i<9223372036854775807 by omega),Int.toNat_natCast]) (fun ys hy=>by simp only[fj,bm];rfl)]
 rfl
theorem Ld:DV hH:=by
 intro x hx
 unfold hH
 simp only[dC,aa,If x.1 hx.1,Gr x.2.1 hx.2.1,AR x.2.2.1 hx.2.2.1]
theorem JI:DW sG:=fun xs ys hx hy=>eqL (f:=mJ xs ys) xs ys (by have:=(aG hx).1;omega) (fun i h h'=>by
 simp only[mJ,bK h,if_true,aF h,aF h',aa,dC,af (show i<9223372036854775807 by have:=(aG hx).1;omega)]
 first | exact fH (by simp) | exact qk (by simp) | exact fH (by simp[Prod.ext_iff])) (by simp only[mJ,bm];rfl)
theorem Rn:DW sH:=by
 intro x y hx hy
 unfold sH
 try simp only[dC,aa]
 repeat' split
 all_goals simp_all[Prod.ext_iff]
theorem N9:DW ue:=fun xs ys hx hy=>eqL (f:=lL xs ys) xs ys (by have:=(aG hx).1;omega) (fun i h h'=>by
 simp only[lL,bK h,if_true,aF h,aF h',aa,dC,Rn xs[i] ys[i] ((aG hx).2 _ (List.getElem_mem h)) ((aG hy).2 _ (List.getElem_mem h')),af (show i<9223372036854775807 by have:=(aG hx).1;omega)]
 first | exact fH (by simp) | exact qk (by simp) | exact fH (by simp[Prod.ext_iff])) (by simp only[lL,bm];rfl)
theorem Oa:DW qa:=by
 intro x y hx hy
 unfold qa
 try simp only[dC,aa,JI x.1 y.1 hx.1 hy.1,N9 x.2 y.2 hx.2 hy.2]
 repeat' split
 all_goals simp_all[Prod.ext_iff]
theorem Le:DW rv:=fun xs ys hx hy=>eqL (f:=ku xs ys) xs ys (by have:=(aG hx).1;omega) (fun i h h'=>by
 simp only[ku,bK h,if_true,aF h,aF h',aa,dC,Oa xs[i] ys[i] ((aG hx).2 _ (List.getElem_mem h)) ((aG hy).2 _ (List.getElem_mem h')),af (show i<9223372036854775807 by have:=(aG hx).1;omega)]
 first | exact fH (by simp) | exact qk (by simp) | exact fH (by simp[Prod.ext_iff])) (by simp only[ku,bm];rfl)
theorem Ig:DW mK:=by
 intro x y hx hy
 unfold mK
 try simp only[dC,aa,Le x.2 y.2 hx.2 hy.2]
 repeat' split
 all_goals simp_all[Prod.ext_iff]
theorem Ob:DW uf:=fun xs ys hx hy=>eqL (f:=lM xs ys) xs ys (by have:=(aG hx).1;omega) (fun i h h'=>by
 simp only[lM,bK h,if_true,aF h,aF h',aa,dC,af (show i<9223372036854775807 by have:=(aG hx).1;omega)]
 first | exact fH (by simp) | exact qk (by simp) | exact fH (by simp[Prod.ext_iff])) (by simp only[lM,bm];rfl)
theorem Oc:DW ug:=fun xs ys hx hy=>eqL (f:=lN xs ys) xs ys (by have:=(aG hx).1;omega) (fun i h h'=>by
 simp only[lN,bK h,if_true,aF h,aF h',aa,dC,JI xs[i] ys[i] ((aG hx).2 _ (List.getElem_mem h)) ((aG hy).2 _ (List.getElem_mem h')),af (show i<9223372036854775807 by have:=(aG hx).1;omega)]
 first | exact fH (by simp) | exact qk (by simp) | exact fH (by simp[Prod.ext_iff])) (by simp only[lN,bm];rfl)
theorem DZ:DW ky:=by
 intro x y hx hy
 unfold ky
 try simp only[dC,aa,Ob x.2.1 y.2.1 hx.2.1 hy.2.1,Oc x.2.2 y.2.2 hx.2.2 hy.2.2]
 repeat' split
 all_goals simp_all[Prod.ext_iff]
theorem BJ:DW mn:=fun xs ys hx hy=>eqL (f:=gb xs ys) xs ys (by have:=(aG hx).1;omega) (fun i h h'=>by
 simp only[gb,bK h,if_true,aF h,aF h',aa,dC,DZ xs[i] ys[i] ((aG hx).2 _ (List.getElem_mem h)) ((aG hy).2 _ (List.getElem_mem h')),af (show i<9223372036854775807 by have:=(aG hx).1;omega)]
 first | exact fH (by simp) | exact qk (by simp) | exact fH (by simp[Prod.ext_iff])) (by simp only[gb,bm];rfl)
theorem Od:DW qb:=by
 intro x y hx hy
 unfold qb
 try simp only[dC,aa]
 repeat' split
 all_goals simp_all[Prod.ext_iff]
theorem Lf:DW ry:=fun xs ys hx hy=>eqL (f:=kz xs ys) xs ys (by have:=(aG hx).1;omega) (fun i h h'=>by
 simp only[kz,bK h,if_true,aF h,aF h',aa,dC,Od xs[i] ys[i] ((aG hx).2 _ (List.getElem_mem h)) ((aG hy).2 _ (List.getElem_mem h')),af (show i<9223372036854775807 by have:=(aG hx).1;omega)]
 first | exact fH (by simp) | exact qk (by simp) | exact fH (by simp[Prod.ext_iff])) (by simp only[kz,bm];rfl)
theorem Ro:DW sI:=by
 intro x y hx hy
 unfold sI
 try simp only[dC,aa,Lf x y hx hy]
 repeat' split
 all_goals simp_all[Prod.ext_iff]
theorem BK:DW jn:=by
 intro x y hx hy
 unfold jn
 try simp only[dC,aa,Ro x.2.1 y.2.1 hx.2.1 hy.2.1]
 repeat' split
 all_goals simp_all[Prod.ext_iff]
theorem AS:DW kZ:=fun xs ys hx hy=>eqL (f:=fl xs ys) xs ys (by have:=(aG hx).1;omega) (fun i h h'=>by
 simp only[fl,bK h,if_true,aF h,aF h',aa,dC,BK xs[i] ys[i] ((aG hx).2 _ (List.getElem_mem h)) ((aG hy).2 _ (List.getElem_mem h')),af (show i<9223372036854775807 by have:=(aG hx).1;omega)]
 first | exact fH (by simp) | exact qk (by simp) | exact fH (by simp[Prod.ext_iff])) (by simp only[fl,bm];rfl)
theorem Gs:DW lO:=by
 intro x y hx hy
 unfold lO
 try simp only[dC,aa,BJ x.1 y.1 hx.1 hy.1,AS x.2 y.2 hx.2 hy.2]
 repeat' split
 all_goals simp_all[Prod.ext_iff]
theorem BL:DW jo:=by
 intro x y hx hy
 unfold jo
 try simp only[dC,aa]
 repeat' split
 all_goals simp_all[Prod.ext_iff]
theorem AT:DW k7:=fun xs ys hx hy=>eqL (f:=fm xs ys) xs ys (by have:=(aG hx).1;omega) (fun i h h'=>by
 simp only[fm,bK h,if_true,aF h,aF h',aa,dC,BL xs[i] ys[i] ((aG hx).2 _ (List.getElem_mem h)) ((aG hy).2 _ (List.getElem_mem h')),af (show i<9223372036854775807 by have:=(aG hx).1;omega)]
 first | exact fH (by simp) | exact qk (by simp) | exact fH (by simp[Prod.ext_iff])) (by simp only[fm,bm];rfl)
theorem CH:DW ig:=by
 intro x y hx hy
 unfold ig
 try simp only[dC,aa,Ig x.1 y.1 hx.1 hy.1,Gs x.2.1 y.2.1 hx.2.1 hy.2.1,AT x.2.2.1 y.2.2.1 hx.2.2.1 hy.2.2.1]
 repeat' split
 all_goals simp_all[Prod.ext_iff]
end D
namespace D
open Go.RowKit
theorem cY {R S:Type} {f:S->Option (Out R S)} (Inv:Nat->S->Prop) (Q:Out R S->Prop) (N:Nat)
  (h: ∀i s,i<=N->Inv i s->(i<N/\ ∃s',f s=some (.nxt s')/\Inv (i+1) s')\/ ∃o,f s=some o/\(∀s',o≠ .nxt s')/\Q o) {s:S} (h0:Inv 0 s) (hN:N<aW): ∃o,ax f aW s=some o/\Q o:=by
 have key: ∀(k i:Nat) (s:S),i<=N->N<i+k->Inv i s-> ∃o,ax f k s=some o/\Q o:=by
  intro k
  induction k with
  | zero=>intro i s h1 h2;omega
  | succ k ih =>
   intro i s h1 h2 hI
   rcases h i s h1 hI with ⟨hi,s',e,hI'⟩ | ⟨o,e,hn,hq⟩
   ·obtain ⟨o,e',hq⟩:=ih (i+1) s' (by omega) (by omega) hI'
    exact ⟨o,by rw[ax,e];exact e',hq⟩
   ·refine ⟨o,?_,hq⟩
    rw[ax,e]
    cases o with
    | nxt s'=>exact absurd rfl (hn s')
    | brk s'=>rfl
    | ret r=>rfl
 exact key aW 0 s (by omega) (by omega) h0
theorem nT {R S:Type} {f:S->Option (Out R S)} (Inv:Nat->S->Prop) (N:Nat) (h: ∀i s,i<N->Inv i s-> ∃s',f s=some (.nxt s')/\Inv (i+1) s') (he: ∀s,Inv N s->f s=some (.brk s)) {s:S} (h0:Inv 0 s) (hN:N<aW): ∃s',ax f aW s=some (.brk s')/\Inv N s':=by
 obtain ⟨o,e,s',rfl,h⟩:=cY (f:=f) Inv (fun o=> ∃s',o= .brk s'/\Inv N s') N (fun i s hi hI=>by
  by_cases h1:i<N
  ·exact .inl ⟨h1,h i s h1 hI⟩
  ·obtain rfl:i=N:=by omega
   exact .inr ⟨_,he s hI,(fun s' e=>by cases e),s,rfl,hI⟩) h0 hN
 exact ⟨s',e,h⟩
theorem bc {R S:Type} {f:S->Option (Out R S)} (st:Nat->S) (N:Nat) (h: ∀i,i<N->f (st i)=some (.nxt (st (i+1)))) (he:f (st N)=some (.brk (st N))) (hN:N<aW):ax f aW (st 0)=some (.brk (st N)):=Gp st N h he hN
theorem tL {k:Nat} (h:k<=9223372036854775807):k<aW:=dB k h
theorem pE {i:Nat} (h:i<=9223372036854775807):IntKind.i64.wrap ((i:Int) - 1)=(i:Int) - 1:=eY (by omega) (by omega)
theorem aL {α:Type} {b:Nat} {xs ys:List α} (h:(xs.length+ys.length)*b<=140737488355328):cJ b xs ys=some (xs++ys):=by unfold cJ;rw[if_pos h]
theorem cC {R S T:Type} {x:Option (Out R S)} {r:R} {kr:R->Option T} {k:S->Option T} (h:x=some (.ret r)):aP x kr k=kr r:=by rw[h];rfl
theorem aw {R S T:Type} {x:Option (Out R S)} {s:S} {kr:R->Option T} {k:S->Option T} (h:x=some (.brk s)):aP x kr k=k s:=by rw[h];rfl
def nth {α:Type} [Inhabited α] (xs:List α) (i:Int):α:=xs.getD i.toNat default
section
variable {α:Type} [Inhabited α] {xs ys:List α}
theorem aC {i:Int} (h0:0<=i) (h1:i<xs.length):aQ xs i=some (nth xs i):=by
 unfold aQ nth
 rw[if_pos h0]
 have:i.toNat<xs.length:=by omega
 simp[List.getD_eq_getElem?_getD,this]
theorem bX {i:Nat} (h:i<xs.length):nth xs (i:Int)=xs[i]:=by simp[nth,List.getD_eq_getElem?_getD,h]
theorem b7 {i:Int} (h0:0<=i) (h1:i<xs.length):nth xs i∈xs:=by
 have:i.toNat<xs.length:=by omega
 have e:nth xs i=xs[i.toNat]:=by simp[nth,List.getD_eq_getElem?_getD,this]
 rw[e];exact List.getElem_mem this
theorem im {i:Int} (h0:0<=i) (h1:i<xs.length):nth (xs++ys) i=nth xs i:=by
 have:i.toNat<xs.length:=by omega
 simp[nth,List.getD_eq_getElem?_getD,List.getElem?_append_left this]
theorem Ih {x:α} (h:x∈xs): ∃i:Nat,i<xs.length/\nth xs (i:Int)=x:=by
 obtain ⟨i,hi,rfl⟩:=List.getElem_of_mem h
 exact ⟨i,hi,bX hi⟩
theorem Gt {i:Int} {x:α} (h0:0<=i) (h1:i<xs.length):nth (xs.set i.toNat x) i=x:=by
 have:i.toNat<xs.length:=by omega
 simp[nth,List.getD_eq_getElem?_getD,this]
theorem Vk (h:xs.length=ys.length) (k: ∀i:Nat,i<xs.length->nth xs (i:Int)=nth ys (i:Int)):xs=ys:=by
 refine List.ext_getElem h fun i h1 h2=>?_
 have:=k i h1
 rwa [bX h1,bX h2] at this
end
section
variable {κ:Type} [DecidableEq κ]
def nbL (l:List κ):Option κ->List κ
 | none=>l
 | some x=>if x∈l then l else l++ [x]
def nbI (l:List κ):Option κ->Int
 | none=> -1
 | some x=>(l.idxOf x:Int)
def nbS (l:List κ) (os:List (Option κ)):List κ:=os.foldl nbL l
def nbR (l:List κ):List (Option κ)->List Int
 | [] =>[]
 | o::os=>nbI l o::nbR (nbL l o) os
theorem vQ (l:List κ) (os:List (Option κ)) (o:Option κ):nbS l (os++ [o])=nbL (nbS l os) o:=by simp[nbS]
theorem sL: ∀(l:List κ) (os:List (Option κ)) (o:Option κ),nbR l (os++ [o])=nbR l os++ [nbI (nbS l os) o]
 | l,[],o=>rfl
 | l,p::os,o=>by
  show nbI l p::nbR (nbL l p) (os++ [o])=nbI l p::nbR (nbL l p) os++ [nbI (nbS (nbL l p) os) o]
  rw[sL (nbL l p) os o];rfl
theorem eI: ∀(l:List κ) (os:List (Option κ)),(nbR l os).length=os.length
 | l,[] =>rfl
 | l,o::os=>by show (nbR (nbL l o) os).length+1=_;rw[eI];rfl
theorem Lg (l : List κ) (o : Option κ) : l <+: nbL l o := by
  cases o with
  | none => exact List.prefix_refl l
  | some x => unfold nbL; simp only; split
              · exact List.prefix_refl l
              · exact List.prefix_append l [x]
theorem ln: ∀(l:List κ) (os:List (Option κ)),l <+:nbS l os
 | l,[] =>List.prefix_refl l
 | l,o::os=>(Lg l o).trans (ln (nbL l o) os)
theorem Oe {l : List κ} {o : Option κ} (h : l.Nodup) : (nbL l o).Nodup := by
  cases o with
  | none => exact h
  | some x => unfold nbL; simp only; split
              · exact h
              · rename_i hx; exact List.nodup_append.2 ⟨h, by simp, by rintro a ha b hb rfl; simp at hb; exact hx (hb ▸ ha)⟩
theorem sd: ∀ {l:List κ} {os:List (Option κ)},l.Nodup->(nbS l os).Nodup
 | l,[],h=>h
 | l,o::os,h=>sd (l:=nbL l o) (os:=os) (Oe h)
theorem Of {l : List κ} {o : Option κ} {x : κ} : x ∈ nbL l o ↔ x ∈ l \/ o = some x := by
  cases o with
  | none => simp [nbL]
  | some y => unfold nbL; simp only; split
              · rename_i h; constructor
                · exact .inl
                · rintro (h' | h')
                  · exact h'
                  · simp at h'; exact h' ▸ h
              · simp; exact or_congr Iff.rfl eq_comm
theorem w4: ∀ {l:List κ} {os:List (Option κ)} {x:κ},x∈nbS l os↔x∈l\/some x∈os
 | l,[],x=>by simp[nbS]
 | l,o::os,x=>by
  show x∈nbS (nbL l o) os↔_
  rw[w4,Of,List.mem_cons,or_assoc]
  exact or_congr Iff.rfl (or_congr eq_comm Iff.rfl)
theorem mw {l:List κ} {x:κ} (h:x∈l):nbL l (some x)=l:=by simp[nbL,h]
theorem lp {l:List κ} {x:κ} (h:x∉l):nbL l (some x)=l++ [x]:=by simp[nbL,h]
theorem pF {l:List κ} {x:κ} (h:x∉l):l.idxOf x=l.length:=List.idxOf_eq_length h
def bfS (nx:κ->List (Option κ)) (first:κ):Nat->List κ
 | 0=>[first]
 | i+1=>match (bfS nx first i)[i]? with
  | some x=>nbS (bfS nx first i) (nx x)
  | none=>bfS nx first i
def bfR (nx:κ->List (Option κ)) (first:κ):Nat->List (List Int)
 | 0=>[]
 | i+1=>bfR nx first i++(match (bfS nx first i)[i]? with
  | some x=>[nbR (bfS nx first i) (nx x)]
  | none=>[])
variable {nx:κ->List (Option κ)} {first:κ}
theorem D0 {i:Nat} (h:i<(bfS nx first i).length):bfS nx first (i+1)=nbS (bfS nx first i) (nx ((bfS nx first i)[i])):=by
 rw[bfS,List.getElem?_eq_getElem h]
theorem vR {i:Nat} (h:i<(bfS nx first i).length):bfR nx first (i+1)=bfR nx first i++ [nbR (bfS nx first i) (nx ((bfS nx first i)[i]))]:=by
 rw[bfR,List.getElem?_eq_getElem h]
theorem bO (i:Nat):bfS nx first i <+:bfS nx first (i+1):=by
 rw[bfS]
 split
 ·exact ln _ _
 ·exact List.prefix_refl _
theorem w5 {i j:Nat} (h:i<=j):bfS nx first i <+:bfS nx first j:=by
 induction h with
 | refl=>exact List.prefix_refl _
 | step _ ih=>exact ih.trans (bO _)
theorem nU: ∀i,(bfS nx first i).Nodup
 | 0=>by simp[bfS]
 | i+1=>by
  rw[bfS]
  split
  ·exact sd (nU i)
  ·exact nU i
theorem kK {G:κ->Prop} (h0:G first) (h: ∀x,G x-> ∀y,some y∈nx x->G y): ∀i,∀x∈bfS nx first i,G x
 | 0=>by simp[bfS];exact h0
 | i+1=>by
  rw[bfS]
  split
  ·rename_i y hy
   intro x hx
   rcases w4.1 hx with hx | hx
   ·exact kK h0 h i x hx
   ·exact h y (kK h0 h i y (List.mem_of_getElem? hy)) x hx
  ·exact kK h0 h i
theorem Gu (i:Nat):(bfS nx first i)[0]? =some first:=by
 obtain ⟨t,ht⟩:=w5 (nx:=nx) (first:=first) (Nat.zero_le i)
 rw[<-ht];rfl
theorem jS: ∀ {i:Nat},(∀j,j<i->j<(bfS nx first j).length)->(bfR nx first i).length=i
 | 0,_=>rfl
 | i+1,h=>by rw[vR (h i (by omega)),al,jS fun j hj=>h j (by omega)];rfl
def bfE (nx:κ->List (Option κ)) (first:κ) (N:Nat):Prop:=N=(bfS nx first N).length/\ ∀i,i<N->i<(bfS nx first i).length
theorem SW {B:Nat} (hB: ∀i,(bfS nx first i).length<=B): ∃N,N<=B/\bfE nx first N:=by
 have key: ∀m i,i+m=B->(∀j,j<i->j<(bfS nx first j).length)-> ∃N,N<=B/\bfE nx first N:=by
  intro m
  induction m with
  | zero =>
   intro i hi hj
   have h1:=hB i
   have h2:i<=(bfS nx first i).length:=by
    cases i with
    | zero=>omega
    | succ i =>
     have:=hj i (by omega)
     have hp:=(bO (nx:=nx) (first:=first) i).length_le
     omega
   exact ⟨i,by omega,by omega,hj⟩
  | succ m ih =>
   intro i hi hj
   by_cases h:i<(bfS nx first i).length
   ·exact ih (i+1) (by omega) fun j hj'=>by
     by_cases e:j=i
     ·subst e;exact h
     ·exact hj j (by omega)
   ·have h2:i<=(bfS nx first i).length:=by
     cases i with
     | zero=>omega
     | succ i =>
      have:=hj i (by omega)
      have hp:=(bO (nx:=nx) (first:=first) i).length_le
      omega
    exact ⟨i,by omega,by omega,hj⟩
 exact key B 0 (by omega) (by omega)
theorem Rp {N M:Nat} (h:bfE nx first N) (k:bfE nx first M):N=M:=by
 rcases Nat.lt_trichotomy N M with e | e | e
 ·have:=k.2 N e;have:=h.1;omega
 ·exact e
 ·have:=h.2 M e;have:=k.1;omega
end
end D
namespace D
open Go.RowKit
section
variable {α:Type} [Inhabited α]
def smk (mk:α->Nat):List α->Nat
 | [] =>0
 | x::xs=>mk x+smk mk xs
def mkd (mk:α->Nat) (m:α->Nat->α):List α->Nat->List α
 | [],_=>[]
 | x::xs,k=>m x k::mkd mk m xs (k+mk x)
theorem D1 (mk:α->Nat): ∀(xs:List α) (x:α),smk mk (xs++ [x])=smk mk xs+mk x
 | [],x=>by simp[smk]
 | y::xs,x=>by simp[smk,D1 mk xs x,Nat.add_assoc]
theorem D2 (mk:α->Nat) (m:α->Nat->α): ∀(xs:List α) (x:α) (k:Nat),mkd mk m (xs++ [x]) k=mkd mk m xs k++ [m x (k+smk mk xs)]
 | [],x,k=>by simp[mkd,smk]
 | y::xs,x,k=>by simp[mkd,smk,D2 mk m xs x,Nat.add_assoc]
theorem bf (mk:α->Nat) (m:α->Nat->α): ∀(xs:List α) (k:Nat),(mkd mk m xs k).length=xs.length
 | [],_=>rfl
 | x::xs,k=>by simp[mkd,bf mk m xs]
theorem D3 (mk:α->Nat) (m:α->Nat->α): ∀(xs:List α) (k i:Nat),(mkd mk m xs k).take i=mkd mk m (xs.take i) k
 | [],_,_=>by simp[mkd]
 | x::xs,k,0=>by simp[mkd]
 | x::xs,k,i+1=>by simp[mkd,D3 mk m xs]
theorem Rq {xs:List α} {k:Nat} (h:k<xs.length):xs.take (k+1)=xs.take k++ [nth xs (k:Int)]:=by
 rw[List.take_succ_eq_append_getElem h,bX h]
theorem W3 (mk:α->Nat) (m:α->Nat->α) (xs:List α) (k:Nat) {i:Nat} (h:i<xs.length):nth (mkd mk m xs k) (i:Int)=m (nth xs (i:Int)) (k+smk mk (xs.take i)):=by
 have h':i<(mkd mk m xs k).length:=by rw[bf];exact h
 have e:=Rq h'
 rw[D3,D3,Rq h,D2] at e
 have:=List.append_cancel_left e
 simpa using this.symm
theorem D4 (mk:α->Nat) {xs:List α} {i:Nat} (h:i<xs.length):smk mk (xs.take (i+1))=smk mk (xs.take i)+mk (nth xs (i:Int)):=by rw[Rq h,D1]
theorem Og (mk:α->Nat): ∀(xs:List α) (i:Nat),smk mk (xs.take i)<=smk mk xs
 | [],_=>by simp
 | x::xs,0=>by simp[smk]
 | x::xs,i+1=>by simp[smk];exact Og mk xs i
theorem je (mk:α->Nat) {B:Nat} : ∀(xs:List α),(∀x∈xs,mk x<=B)->smk mk xs<=xs.length*B
 | [],_=>by simp[smk]
 | x::xs,h=>by
  have h1:=je mk xs fun y hy=>h y (by simp[hy])
  have h2:=h x (by simp)
  simp only[smk,ak,Nat.add_mul,Nat.one_mul];omega
theorem Vl {xs ys:List α} {i:Nat} (hi:i<xs.length) (hl:ys.length=i) (x:α):(ys++xs.drop i).set i x=ys++ [x] ++xs.drop (i+1):=by
 rw[List.set_append_right _ _ (by omega),hl,Nat.sub_self,List.drop_eq_getElem_cons hi,List.set_cons_zero,ai];rfl
theorem D5 {R:Type} {f:List α×Int×Int->Option (Out R (List α×Int×Int))} (xs:List α) (mk:α->Nat) (m:α->Nat->α) (hN:xs.length<=9223372036854775807) {k:Nat} (hk:k+smk mk xs<=4611686018427387904)
  (hstep: ∀ys (i k:Nat),i<xs.length->ys.length=xs.length->nth ys (i:Int)=nth xs (i:Int)->k+mk (nth xs (i:Int))<=4611686018427387904->f (ys,(k:Int),(i:Int))=some (.nxt (ys.set i (m (nth xs (i:Int)) k),((k+mk (nth xs (i:Int)):Nat):Int),((i+1:Nat):Int))))
  (hend: ∀ys (k:Nat),ys.length=xs.length->f (ys,(k:Int),(xs.length:Int))=some (.brk (ys,(k:Int),(xs.length:Int)))) :
  ax f aW (xs,(k:Int),0)=some (.brk (mkd mk m xs k,((k+smk mk xs:Nat):Int),(xs.length:Int))):=by
 have hlen: ∀i,i<=xs.length->(mkd mk m (xs.take i) k++xs.drop i).length=xs.length:=fun i hi=>by
  rw[al,bf,aE,aV];omega
 have:=bc (f:=f) (fun i=>(mkd mk m (xs.take i) k++xs.drop i,((k+smk mk (xs.take i):Nat):Int),(i:Int))) xs.length (fun i hi=>by
  have hl:(mkd mk m (xs.take i) k).length=i:=by rw[bf,aE];omega
  have hle:=Og mk xs (i+1)
  rw[D4 mk hi] at hle
  rw[hstep _ i (k+smk mk (xs.take i)) hi (hlen i (by omega)) ?_ (by omega),Vl hi hl,Rq hi,D2,D1,Nat.add_assoc]
  have h':i<(mkd mk m (xs.take i) k++xs.drop i).length:=by rw[hlen i (by omega)];exact hi
  rw[bX h',bX hi,List.getElem_append_right (by omega)]
  simp[hl]) (by
  have:=hend (mkd mk m (xs.take xs.length) k++xs.drop xs.length) (k+smk mk (xs.take xs.length)) (hlen _ (aA _))
  exact this) (tL hN)
 simpa [mkd,smk] using this
theorem D6 {f:Int×Int->Option yM } (xs:List α) (mk:α->Nat) (m:α->Nat->α) (hN:xs.length<=9223372036854775807) {k:Nat} (hk:k+smk mk xs<=4611686018427387904)
  (hstep: ∀(i k':Nat),i<xs.length->nth (mkd mk m xs k) (i:Int)=m (nth xs (i:Int)) k'->k'+mk (nth xs (i:Int))<=4611686018427387904->f ((k':Int),(i:Int))=some (.nxt (((k'+mk (nth xs (i:Int)):Nat):Int),((i+1:Nat):Int))))
  (hend: ∀(k':Nat),f ((k':Int),(xs.length:Int))=some (.brk ((k':Int),(xs.length:Int)))) :
  ax f aW ((k:Int),0)=some (.brk (((k+smk mk xs:Nat):Int),(xs.length:Int))):=by
 have:=bc (f:=f) (fun i=>(((k+smk mk (xs.take i):Nat):Int),(i:Int))) xs.length (fun i hi=>by
  have hle:=Og mk xs (i+1)
  rw[D4 mk hi] at hle
  rw[hstep i (k+smk mk (xs.take i)) hi (W3 mk m xs k hi) (by omega),D4 mk hi,Nat.add_assoc]) (hend _) (tL hN)
 simpa [smk] using this
end
end D
set_option synthInstance.maxSize 20000
set_option synthInstance.maxHeartbeats 2000000
namespace D
open Go.RowKit
theorem kL {α:Type} {xs:List α} {i:Nat} {x:α} (h:i<xs.length):aQ (xs.set i x) (i:Int)=some x:=by
 rw[aF (by rw[List.length_set];exact h)];simp
theorem Lh {n:Nat} :decide ((n:Int)<0)=false:=by simp only[decide_eq_false_iff_not];omega
def eB (x:Int):Nat:=1
def AU (x:Int) (k:Nat):Int:=((k:Nat):Int)
theorem Oh (xs:List Int) (hx:Data.sm xs):smk eB xs<=1048576*1:=by
 obtain ⟨h1,h2⟩:=aG hx
 have b:=je eB (B:=1) xs (fun x hx=>by
  simp[eB])
 exact Nat.le_trans b (Nat.mul_le_mul_right _ h1)
theorem Oi (xs:List Int) (hx:Data.sm xs) {k:Nat} (hk:k+smk eB xs<=4611686018427387904):l8 xs (k:Int)=some (((k+smk eB xs:Nat):Int),mkd eB AU xs k):=by
 obtain ⟨hN,hs⟩:=aG hx
 unfold l8
 rw[aw (D5 (f:=kB) xs eB AU (by omega) hk (fun ys i k hi hl he hk=>by
  have hz0:=hs _ (b7 (xs:=xs) (i:=(i:Int)) (by omega) (by omega))
  unfold kB
  have hi':i<ys.length:=by omega
  generalize hz:nth xs (i:Int)=z at *
  have hk':k+(1)<=4611686018427387904:=hk
  simp only
  rw[if_pos (by simp;omega),aC (by omega) (by omega),he]
  simp only[aa,Int.toNat_natCast,kL hi',List.set_set,af (show i<9223372036854775807 by omega),af (show k<9223372036854775807 by omega)]
  have e:k+eB z=k+1:=by unfold eB;omega
  rw[e];rfl) (fun ys k hl=>by
  unfold kB
  simp only
  rw[if_neg (by simp;omega)]))]
theorem Oj (xs:List Int) (hx:Data.sm xs) {k:Nat} (hk:k+smk eB xs<=4611686018427387904):l9 (mkd eB AU xs k) (k:Int)=some ((k+smk eB xs:Nat):Int):=by
 obtain ⟨hN,hs⟩:=aG hx
 unfold l9
 rw[aw (D6 (f:=kD _) xs eB AU (by omega) hk (fun i k' hi he hk=>by
  have hz0:=hs _ (b7 (xs:=xs) (i:=(i:Int)) (by omega) (by omega))
  unfold kD
  generalize hz:nth xs (i:Int)=z at *
  have hk':k'+(1)<=4611686018427387904:=hk
  simp only
  rw[if_pos (by simp[bf];omega),aC (by omega) (by rw[bf];omega),he]
  simp only[AU,aa,bne_self_eq_false,Bool.false_eq_true,if_false,Lh,af (show i<9223372036854775807 by omega),af (show k'<9223372036854775807 by omega)]
  have e:k'+eB z=k'+1:=by unfold eB;omega
  rw[e]) (fun k'=>by
  unfold kD
  simp only
  rw[if_neg (by simp[bf])]))]
def eZ (x:Int×Int×Int×Int):Nat:=1+1+1+1
def w6 (x:Int×Int×Int×Int) (k:Nat):Int×Int×Int×Int:=(((k:Nat):Int),((k+1:Nat):Int),((k+1+1:Nat):Int),((k+1+1+1:Nat):Int))
theorem Rr (xs:List Yq4) (hx:Data.sm xs):smk eZ xs<=1048576*4:=by
 obtain ⟨h1,h2⟩:=aG hx
 have b:=je eZ (B:=4) xs (fun x hx=>by
  simp[eZ])
 exact Nat.le_trans b (Nat.mul_le_mul_right _ h1)
theorem Rs (xs:List Yq4) (hx:Data.sm xs) {k:Nat} (hk:k+smk eZ xs<=4611686018427387904):mL xs (k:Int)=some (((k+smk eZ xs:Nat):Int),mkd eZ w6 xs k):=by
 obtain ⟨hN,hs⟩:=aG hx
 unfold mL
 rw[aw (D5 (f:=jr) xs eZ w6 (by omega) hk (fun ys i k hi hl he hk=>by
  have hz0:=hs _ (b7 (xs:=xs) (i:=(i:Int)) (by omega) (by omega))
  unfold jr
  have hi':i<ys.length:=by omega
  generalize hz:nth xs (i:Int)=z at *
  have hk':k+(1+1+1+1)<=4611686018427387904:=hk
  simp only
  rw[if_pos (by simp;omega),aC (by omega) (by omega),he]
  simp only[aa,Int.toNat_natCast,kL hi',List.set_set,af (show i<9223372036854775807 by omega),af (show k<9223372036854775807 by omega),af (show k+1<9223372036854775807 by omega),af (show k+1+1<9223372036854775807 by omega),af (show k+1+1+1<9223372036854775807 by omega)]
  have e:k+eZ z=k+1+1+1+1:=by unfold eZ;omega
  rw[e];rfl) (fun ys k hl=>by
  unfold jr
  simp only
  rw[if_neg (by simp;omega)]))]
theorem Rt (xs:List Yq4) (hx:Data.sm xs) {k:Nat} (hk:k+smk eZ xs<=4611686018427387904):mO (mkd eZ w6 xs k) (k:Int)=some ((k+smk eZ xs:Nat):Int):=by
 obtain ⟨hN,hs⟩:=aG hx
 unfold mO
 rw[aw (D6 (f:=jw _) xs eZ w6 (by omega) hk (fun i k' hi he hk=>by
  have hz0:=hs _ (b7 (xs:=xs) (i:=(i:Int)) (by omega) (by omega))
  unfold jw
  generalize hz:nth xs (i:Int)=z at *
  have hk':k'+(1+1+1+1)<=4611686018427387904:=hk
  simp only
  rw[if_pos (by simp[bf];omega),aC (by omega) (by rw[bf];omega),he]
  simp only[w6,aa,bne_self_eq_false,Bool.false_eq_true,if_false,Lh,af (show i<9223372036854775807 by omega),af (show k'<9223372036854775807 by omega),af (show k'+1<9223372036854775807 by omega),af (show k'+1+1<9223372036854775807 by omega),af (show k'+1+1+1<9223372036854775807 by omega)]
  have e:k'+eZ z=k'+1+1+1+1:=by unfold eZ;omega
  rw[e]) (fun k'=>by
  unfold jw
  simp only
  rw[if_neg (by simp[bf])]))]
def dF (x:(List Int)×Yq1):Nat:=smk eB (x.1)+smk eZ (x.2)
def sM (x:(List Int)×Yq1) (k:Nat):(List Int)×Yq1:=(mkd eB AU (x.1) (k),mkd eZ w6 (x.2) (k+smk eB (x.1)))
theorem Ok (xs:List DD) (hx:Data.sm xs):smk dF xs<=1048576*5242880:=by
 obtain ⟨h1,h2⟩:=aG hx
 have b:=je dF (B:=5242880) xs (fun x hx=>by
  have hs:=h2 x hx
  have q0:=Oh (x.1) hs.1
  have q1:=Rr (x.2) hs.2
  unfold dF;omega)
 exact Nat.le_trans b (Nat.mul_le_mul_right _ h1)
theorem Ol (xs:List DD) (hx:Data.sm xs) {k:Nat} (hk:k+smk dF xs<=4611686018427387904):lQ xs (k:Int)=some (((k+smk dF xs:Nat):Int),mkd dF sM xs k):=by
 obtain ⟨hN,hs⟩:=aG hx
 unfold lQ
 rw[aw (D5 (f:=iG) xs dF sM (by omega) hk (fun ys i k hi hl he hk=>by
  have hz0:=hs _ (b7 (xs:=xs) (i:=(i:Int)) (by omega) (by omega))
  unfold iG
  have hi':i<ys.length:=by omega
  generalize hz:nth xs (i:Int)=z at *
  have hk':k+(smk eB (z.1)+smk eZ (z.2))<=4611686018427387904:=hk
  have m0:=Oi (z.1) hz0.1 (k:=k) (by omega)
  have m1:=Rs (z.2) hz0.2 (k:=k+smk eB (z.1)) (by omega)
  simp only
  rw[if_pos (by simp;omega),aC (by omega) (by omega),he]
  simp only[aa,Int.toNat_natCast,kL hi',List.set_set,af (show i<9223372036854775807 by omega),m0,m1]
  have e:k+dF z=k+smk eB (z.1)+smk eZ (z.2):=by unfold dF;omega
  rw[e];rfl) (fun ys k hl=>by
  unfold iG
  simp only
  rw[if_neg (by simp;omega)]))]
theorem Om (xs:List DD) (hx:Data.sm xs) {k:Nat} (hk:k+smk dF xs<=4611686018427387904):lS (mkd dF sM xs k) (k:Int)=some ((k+smk dF xs:Nat):Int):=by
 obtain ⟨hN,hs⟩:=aG hx
 unfold lS
 rw[aw (D6 (f:=iI _) xs dF sM (by omega) hk (fun i k' hi he hk=>by
  have hz0:=hs _ (b7 (xs:=xs) (i:=(i:Int)) (by omega) (by omega))
  unfold iI
  generalize hz:nth xs (i:Int)=z at *
  have hk':k'+(smk eB (z.1)+smk eZ (z.2))<=4611686018427387904:=hk
  have m0:=Oj (z.1) hz0.1 (k:=k') (by omega)
  have m1:=Rt (z.2) hz0.2 (k:=k'+smk eB (z.1)) (by omega)
  simp only
  rw[if_pos (by simp[bf];omega),aC (by omega) (by rw[bf];omega),he]
  simp only[sM,aa,bne_self_eq_false,Bool.false_eq_true,if_false,Lh,af (show i<9223372036854775807 by omega),m0,m1]
  have e:k'+dF z=k'+smk eB (z.1)+smk eZ (z.2):=by unfold dF;omega
  rw[e]) (fun k'=>by
  unfold iI
  simp only
  rw[if_neg (by simp[bf])]))]
def dG (x:Bool):Nat:=1
def w7 (x:Bool) (k:Nat):Bool:=((Int.tmod ((k:Nat):Int) 3)==0)
theorem Ru (xs:List Bool) (hx:Data.sm xs):smk dG xs<=1048576*1:=by
 obtain ⟨h1,h2⟩:=aG hx
 have b:=je dG (B:=1) xs (fun x hx=>by
  simp[dG])
 exact Nat.le_trans b (Nat.mul_le_mul_right _ h1)
theorem Rv (xs:List Bool) (hx:Data.sm xs) {k:Nat} (hk:k+smk dG xs<=4611686018427387904):mM xs (k:Int)=some (((k+smk dG xs:Nat):Int),mkd dG w7 xs k):=by
 obtain ⟨hN,hs⟩:=aG hx
 unfold mM
 rw[aw (D5 (f:=jt) xs dG w7 (by omega) hk (fun ys i k hi hl he hk=>by
  have hz0:=hs _ (b7 (xs:=xs) (i:=(i:Int)) (by omega) (by omega))
  unfold jt
  have hi':i<ys.length:=by omega
  generalize hz:nth xs (i:Int)=z at *
  have hk':k+(1)<=4611686018427387904:=hk
  simp only
  rw[if_pos (by simp;omega),aC (by omega) (by omega),he]
  simp only[aa,Int.toNat_natCast,kL hi',List.set_set,af (show i<9223372036854775807 by omega),af (show k<9223372036854775807 by omega)]
  have e:k+dG z=k+1:=by unfold dG;omega
  rw[e];rfl) (fun ys k hl=>by
  unfold jt
  simp only
  rw[if_neg (by simp;omega)]))]
theorem Rw (xs:List Bool) (hx:Data.sm xs) {k:Nat} (hk:k+smk dG xs<=4611686018427387904):mP (mkd dG w7 xs k) (k:Int)=some ((k+smk dG xs:Nat):Int):=by
 obtain ⟨hN,hs⟩:=aG hx
 unfold mP
 rw[aw (D6 (f:=jx _) xs dG w7 (by omega) hk (fun i k' hi he hk=>by
  have hz0:=hs _ (b7 (xs:=xs) (i:=(i:Int)) (by omega) (by omega))
  unfold jx
  generalize hz:nth xs (i:Int)=z at *
  have hk':k'+(1)<=4611686018427387904:=hk
  simp only
  rw[if_pos (by simp[bf];omega),aC (by omega) (by rw[bf];omega),he]
  simp only[w7,aa,bne_self_eq_false,Bool.false_eq_true,if_false,Lh,af (show i<9223372036854775807 by omega),af (show k'<9223372036854775807 by omega)]
  have e:k'+dG z=k'+1:=by unfold dG;omega
  rw[e]) (fun k'=>by
  unfold jx
  simp only
  rw[if_neg (by simp[bf])]))]
def e7 (x:List Int):Nat:=smk eB (x)
def w8 (x:List Int) (k:Nat):List Int:=mkd eB AU x k
theorem Rx (xs:List (List Int)) (hx:Data.sm xs):smk e7 xs<=1048576*1048576:=by
 obtain ⟨h1,h2⟩:=aG hx
 have b:=je e7 (B:=1048576) xs (fun x hx=>by
  have hs:=h2 x hx
  have q0:=Oh (x) hs
  unfold e7;omega)
 exact Nat.le_trans b (Nat.mul_le_mul_right _ h1)
theorem Ry (xs:List (List Int)) (hx:Data.sm xs) {k:Nat} (hk:k+smk e7 xs<=4611686018427387904):mN xs (k:Int)=some (((k+smk e7 xs:Nat):Int),mkd e7 w8 xs k):=by
 obtain ⟨hN,hs⟩:=aG hx
 unfold mN
 rw[aw (D5 (f:=ju) xs e7 w8 (by omega) hk (fun ys i k hi hl he hk=>by
  have hz0:=hs _ (b7 (xs:=xs) (i:=(i:Int)) (by omega) (by omega))
  unfold ju
  have hi':i<ys.length:=by omega
  generalize hz:nth xs (i:Int)=z at *
  have hk':k+(smk eB (z))<=4611686018427387904:=hk
  have m0:=Oi (z) hz0 (k:=k) (by omega)
  simp only
  rw[if_pos (by simp;omega),aC (by omega) (by omega),he]
  simp only[aa,Int.toNat_natCast,kL hi',List.set_set,af (show i<9223372036854775807 by omega),m0]
  have e:k+e7 z=k+smk eB (z):=by unfold e7;omega
  rw[e];rfl) (fun ys k hl=>by
  unfold ju
  simp only
  rw[if_neg (by simp;omega)]))]
theorem Rz (xs:List (List Int)) (hx:Data.sm xs) {k:Nat} (hk:k+smk e7 xs<=4611686018427387904):mQ (mkd e7 w8 xs k) (k:Int)=some ((k+smk e7 xs:Nat):Int):=by
 obtain ⟨hN,hs⟩:=aG hx
 unfold mQ
 rw[aw (D6 (f:=jy _) xs e7 w8 (by omega) hk (fun i k' hi he hk=>by
  have hz0:=hs _ (b7 (xs:=xs) (i:=(i:Int)) (by omega) (by omega))
  unfold jy
  generalize hz:nth xs (i:Int)=z at *
  have hk':k'+(smk eB (z))<=4611686018427387904:=hk
  have m0:=Oj (z) hz0 (k:=k') (by omega)
  simp only
  rw[if_pos (by simp[bf];omega),aC (by omega) (by rw[bf];omega),he]
  simp only[w8,aa,bne_self_eq_false,Bool.false_eq_true,if_false,Lh,af (show i<9223372036854775807 by omega),m0]
  have e:k'+e7 z=k'+smk eB (z):=by unfold e7;omega
  rw[e]) (fun k'=>by
  unfold jy
  simp only
  rw[if_neg (by simp[bf])]))]
def br (x:Int×(List Bool)×(List (List Int))):Nat:=1+smk dG (x.2.1)+smk e7 (x.2.2)
def jT (x:Int×(List Bool)×(List (List Int))) (k:Nat):Int×(List Bool)×(List (List Int)):=(((k:Nat):Int),mkd dG w7 (x.2.1) (k+1),mkd e7 w8 (x.2.2) (k+1+smk dG (x.2.1)))
theorem D7 (xs:List Yq2) (hx:Data.sm xs):smk br xs<=1048576*1099512676353:=by
 obtain ⟨h1,h2⟩:=aG hx
 have b:=je br (B:=1099512676353) xs (fun x hx=>by
  have hs:=h2 x hx
  have q0:=Ru (x.2.1) hs.2.1
  have q1:=Rx (x.2.2) hs.2.2
  unfold br;omega)
 exact Nat.le_trans b (Nat.mul_le_mul_right _ h1)
theorem D8 (xs:List Yq2) (hx:Data.sm xs) {k:Nat} (hk:k+smk br xs<=4611686018427387904):gH xs (k:Int)=some (((k+smk br xs:Nat):Int),mkd br jT xs k):=by
 obtain ⟨hN,hs⟩:=aG hx
 unfold gH
 rw[aw (D5 (f:=eR) xs br jT (by omega) hk (fun ys i k hi hl he hk=>by
  have hz0:=hs _ (b7 (xs:=xs) (i:=(i:Int)) (by omega) (by omega))
  unfold eR
  have hi':i<ys.length:=by omega
  generalize hz:nth xs (i:Int)=z at *
  have hk':k+(1+smk dG (z.2.1)+smk e7 (z.2.2))<=4611686018427387904:=hk
  have m0:=Rv (z.2.1) hz0.2.1 (k:=k+1) (by omega)
  have m1:=Ry (z.2.2) hz0.2.2 (k:=k+1+smk dG (z.2.1)) (by omega)
  simp only
  rw[if_pos (by simp;omega),aC (by omega) (by omega),he]
  simp only[aa,Int.toNat_natCast,kL hi',List.set_set,af (show i<9223372036854775807 by omega),af (show k<9223372036854775807 by omega),m0,m1]
  have e:k+br z=k+1+smk dG (z.2.1)+smk e7 (z.2.2):=by unfold br;omega
  rw[e];rfl) (fun ys k hl=>by
  unfold eR
  simp only
  rw[if_neg (by simp;omega)]))]
theorem D9 (xs:List Yq2) (hx:Data.sm xs) {k:Nat} (hk:k+smk br xs<=4611686018427387904):gI (mkd br jT xs k) (k:Int)=some ((k+smk br xs:Nat):Int):=by
 obtain ⟨hN,hs⟩:=aG hx
 unfold gI
 rw[aw (D6 (f:=eS _) xs br jT (by omega) hk (fun i k' hi he hk=>by
  have hz0:=hs _ (b7 (xs:=xs) (i:=(i:Int)) (by omega) (by omega))
  unfold eS
  generalize hz:nth xs (i:Int)=z at *
  have hk':k'+(1+smk dG (z.2.1)+smk e7 (z.2.2))<=4611686018427387904:=hk
  have m0:=Rw (z.2.1) hz0.2.1 (k:=k'+1) (by omega)
  have m1:=Rz (z.2.2) hz0.2.2 (k:=k'+1+smk dG (z.2.1)) (by omega)
  simp only
  rw[if_pos (by simp[bf];omega),aC (by omega) (by rw[bf];omega),he]
  simp only[jT,aa,bne_self_eq_false,Bool.false_eq_true,if_false,Lh,af (show i<9223372036854775807 by omega),af (show k'<9223372036854775807 by omega),m0,m1]
  have e:k'+br z=k'+1+smk dG (z.2.1)+smk e7 (z.2.2):=by unfold br;omega
  rw[e]) (fun k'=>by
  unfold eS
  simp only
  rw[if_neg (by simp[bf])]))]
def cE (x:Int×Int×Int×Int):Nat:=1+1+1+1
def sN (x:Int×Int×Int×Int) (k:Nat):Int×Int×Int×Int:=(((k:Nat):Int),((k+1:Nat):Int),((k+1+1:Nat):Int),((k+1+1+1:Nat):Int))
theorem On (xs:List Yq4) (hx:Data.sm xs):smk cE xs<=1048576*4:=by
 obtain ⟨h1,h2⟩:=aG hx
 have b:=je cE (B:=4) xs (fun x hx=>by
  simp[cE])
 exact Nat.le_trans b (Nat.mul_le_mul_right _ h1)
theorem Oo (xs:List Yq4) (hx:Data.sm xs) {k:Nat} (hk:k+smk cE xs<=4611686018427387904):lR xs (k:Int)=some (((k+smk cE xs:Nat):Int),mkd cE sN xs k):=by
 obtain ⟨hN,hs⟩:=aG hx
 unfold lR
 rw[aw (D5 (f:=iH) xs cE sN (by omega) hk (fun ys i k hi hl he hk=>by
  have hz0:=hs _ (b7 (xs:=xs) (i:=(i:Int)) (by omega) (by omega))
  unfold iH
  have hi':i<ys.length:=by omega
  generalize hz:nth xs (i:Int)=z at *
  have hk':k+(1+1+1+1)<=4611686018427387904:=hk
  simp only
  rw[if_pos (by simp;omega),aC (by omega) (by omega),he]
  simp only[aa,Int.toNat_natCast,kL hi',List.set_set,af (show i<9223372036854775807 by omega),af (show k<9223372036854775807 by omega),af (show k+1<9223372036854775807 by omega),af (show k+1+1<9223372036854775807 by omega),af (show k+1+1+1<9223372036854775807 by omega)]
  have e:k+cE z=k+1+1+1+1:=by unfold cE;omega
  rw[e];rfl) (fun ys k hl=>by
  unfold iH
  simp only
  rw[if_neg (by simp;omega)]))]
theorem Oq (xs:List Yq4) (hx:Data.sm xs) {k:Nat} (hk:k+smk cE xs<=4611686018427387904):lT (mkd cE sN xs k) (k:Int)=some ((k+smk cE xs:Nat):Int):=by
 obtain ⟨hN,hs⟩:=aG hx
 unfold lT
 rw[aw (D6 (f:=iJ _) xs cE sN (by omega) hk (fun i k' hi he hk=>by
  have hz0:=hs _ (b7 (xs:=xs) (i:=(i:Int)) (by omega) (by omega))
  unfold iJ
  generalize hz:nth xs (i:Int)=z at *
  have hk':k'+(1+1+1+1)<=4611686018427387904:=hk
  simp only
  rw[if_pos (by simp[bf];omega),aC (by omega) (by rw[bf];omega),he]
  simp only[sN,aa,bne_self_eq_false,Bool.false_eq_true,if_false,Lh,af (show i<9223372036854775807 by omega),af (show k'<9223372036854775807 by omega),af (show k'+1<9223372036854775807 by omega),af (show k'+1+1<9223372036854775807 by omega),af (show k'+1+1+1<9223372036854775807 by omega)]
  have e:k'+cE z=k'+1+1+1+1:=by unfold cE;omega
  rw[e]) (fun k'=>by
  unfold iJ
  simp only
  rw[if_neg (by simp[bf])]))]
def bt (x:Int×(Yq1)×Int):Nat:=1+smk cE (x.2.1)+1
def iN (x:Int×(Yq1)×Int) (k:Nat):Int×(Yq1)×Int:=(((k:Nat):Int),mkd cE sN (x.2.1) (k+1),((k+1+smk cE (x.2.1):Nat):Int))
theorem BM (xs:List Yq9) (hx:Data.sm xs):smk bt xs<=1048576*4194306:=by
 obtain ⟨h1,h2⟩:=aG hx
 have b:=je bt (B:=4194306) xs (fun x hx=>by
  have hs:=h2 x hx
  have q0:=On (x.2.1) hs.2.1
  unfold bt;omega)
 exact Nat.le_trans b (Nat.mul_le_mul_right _ h1)
theorem BN (xs:List Yq9) (hx:Data.sm xs) {k:Nat} (hk:k+smk bt xs<=4611686018427387904):gf xs (k:Int)=some (((k+smk bt xs:Nat):Int),mkd bt iN xs k):=by
 obtain ⟨hN,hs⟩:=aG hx
 unfold gf
 rw[aw (D5 (f:=dZ) xs bt iN (by omega) hk (fun ys i k hi hl he hk=>by
  have hz0:=hs _ (b7 (xs:=xs) (i:=(i:Int)) (by omega) (by omega))
  unfold dZ
  have hi':i<ys.length:=by omega
  generalize hz:nth xs (i:Int)=z at *
  have hk':k+(1+smk cE (z.2.1)+1)<=4611686018427387904:=hk
  have m0:=Oo (z.2.1) hz0.2.1 (k:=k+1) (by omega)
  simp only
  rw[if_pos (by simp;omega),aC (by omega) (by omega),he]
  simp only[aa,Int.toNat_natCast,kL hi',List.set_set,af (show i<9223372036854775807 by omega),af (show k<9223372036854775807 by omega),af (show k+1+smk cE (z.2.1)<9223372036854775807 by omega),m0]
  have e:k+bt z=k+1+smk cE (z.2.1)+1:=by unfold bt;omega
  rw[e];rfl) (fun ys k hl=>by
  unfold dZ
  simp only
  rw[if_neg (by simp;omega)]))]
theorem BO (xs:List Yq9) (hx:Data.sm xs) {k:Nat} (hk:k+smk bt xs<=4611686018427387904):gh (mkd bt iN xs k) (k:Int)=some ((k+smk bt xs:Nat):Int):=by
 obtain ⟨hN,hs⟩:=aG hx
 unfold gh
 rw[aw (D6 (f:=eu _) xs bt iN (by omega) hk (fun i k' hi he hk=>by
  have hz0:=hs _ (b7 (xs:=xs) (i:=(i:Int)) (by omega) (by omega))
  unfold eu
  generalize hz:nth xs (i:Int)=z at *
  have hk':k'+(1+smk cE (z.2.1)+1)<=4611686018427387904:=hk
  have m0:=Oq (z.2.1) hz0.2.1 (k:=k'+1) (by omega)
  simp only
  rw[if_pos (by simp[bf];omega),aC (by omega) (by rw[bf];omega),he]
  simp only[iN,aa,bne_self_eq_false,Bool.false_eq_true,if_false,Lh,af (show i<9223372036854775807 by omega),af (show k'<9223372036854775807 by omega),af (show k'+1+smk cE (z.2.1)<9223372036854775807 by omega),m0]
  have e:k'+bt z=k'+1+smk cE (z.2.1)+1:=by unfold bt;omega
  rw[e]) (fun k'=>by
  unfold eu
  simp only
  rw[if_neg (by simp[bf])]))]
def bu (x:Int×Int×Int):Nat:=1+1+1
def iO (x:Int×Int×Int) (k:Nat):Int×Int×Int:=(((k:Nat):Int),((k+1:Nat):Int),((k+1+1:Nat):Int))
theorem BP (xs:List EA) (hx:Data.sm xs):smk bu xs<=1048576*3:=by
 obtain ⟨h1,h2⟩:=aG hx
 have b:=je bu (B:=3) xs (fun x hx=>by
  simp[bu])
 exact Nat.le_trans b (Nat.mul_le_mul_right _ h1)
theorem BQ (xs:List EA) (hx:Data.sm xs) {k:Nat} (hk:k+smk bu xs<=4611686018427387904):gg xs (k:Int)=some (((k+smk bu xs:Nat):Int),mkd bu iO xs k):=by
 obtain ⟨hN,hs⟩:=aG hx
 unfold gg
 rw[aw (D5 (f:=ep) xs bu iO (by omega) hk (fun ys i k hi hl he hk=>by
  have hz0:=hs _ (b7 (xs:=xs) (i:=(i:Int)) (by omega) (by omega))
  unfold ep
  have hi':i<ys.length:=by omega
  generalize hz:nth xs (i:Int)=z at *
  have hk':k+(1+1+1)<=4611686018427387904:=hk
  simp only
  rw[if_pos (by simp;omega),aC (by omega) (by omega),he]
  simp only[aa,Int.toNat_natCast,kL hi',List.set_set,af (show i<9223372036854775807 by omega),af (show k<9223372036854775807 by omega),af (show k+1<9223372036854775807 by omega),af (show k+1+1<9223372036854775807 by omega)]
  have e:k+bu z=k+1+1+1:=by unfold bu;omega
  rw[e];rfl) (fun ys k hl=>by
  unfold ep
  simp only
  rw[if_neg (by simp;omega)]))]
theorem BR (xs:List EA) (hx:Data.sm xs) {k:Nat} (hk:k+smk bu xs<=4611686018427387904):gi (mkd bu iO xs k) (k:Int)=some ((k+smk bu xs:Nat):Int):=by
 obtain ⟨hN,hs⟩:=aG hx
 unfold gi
 rw[aw (D6 (f:=ez _) xs bu iO (by omega) hk (fun i k' hi he hk=>by
  have hz0:=hs _ (b7 (xs:=xs) (i:=(i:Int)) (by omega) (by omega))
  unfold ez
  generalize hz:nth xs (i:Int)=z at *
  have hk':k'+(1+1+1)<=4611686018427387904:=hk
  simp only
  rw[if_pos (by simp[bf];omega),aC (by omega) (by rw[bf];omega),he]
  simp only[iO,aa,bne_self_eq_false,Bool.false_eq_true,if_false,Lh,af (show i<9223372036854775807 by omega),af (show k'<9223372036854775807 by omega),af (show k'+1<9223372036854775807 by omega),af (show k'+1+1<9223372036854775807 by omega)]
  have e:k'+bu z=k'+1+1+1:=by unfold bu;omega
  rw[e]) (fun k'=>by
  unfold ez
  simp only
  rw[if_neg (by simp[bf])]))]
def cq (x:Int×Yq5):Nat:=smk dF (x.2)
def vS (x:Int×Yq5) (k:Nat):Int×Yq5:=(x.1,mkd dF sM (x.2) (k))
theorem Li (x:Int×Yq5) (hx:Data.sm x):cq x<=5497558138880:=by
 have q0:=Ok (x.2) hx.2
 unfold cq;omega
theorem Lj (x:Int×Yq5) (hx:Data.sm x) {k:Nat} (hk:k+cq x<=4611686018427387904):kC x (k:Int)=some (((k+cq x:Nat):Int),vS x k):=by
 unfold cq at hk
 have m0:=Ol (x.2) hx.2 (k:=k) (by omega)
 unfold kC
 simp only[dC,aa,m0]
 have e:k+cq x=k+smk dF (x.2):=by unfold cq;omega
 rw[e];rfl
theorem Lk (x:Int×Yq5) (hx:Data.sm x) {k:Nat} (hk:k+cq x<=4611686018427387904):kE (vS x k) (k:Int)=some ((k+cq x:Nat):Int):=by
 unfold cq at hk
 have m0:=Om (x.2) hx.2 (k:=k) (by omega)
 unfold kE vS
 simp only[dC,aa,Bool.false_eq_true,if_false,Lh,m0]
 have e:k+cq x=k+smk dF (x.2):=by unfold cq;omega
 rw[e]
def cm (x:(List Yq2)×Yq3):Nat:=smk br (x.1)+smk bt (x.2)
def sO (x:(List Yq2)×Yq3) (k:Nat):(List Yq2)×Yq3:=(mkd br jT (x.1) (k),mkd bt iN (x.2) (k+smk br (x.1)))
theorem Ii (x:(List Yq2)×Yq3) (hx:Data.sm x):cm x<=1152927002168131584:=by
 have q0:=D7 (x.1) hx.1
 have q1:=BM (x.2) hx.2
 unfold cm;omega
theorem Ij (x:(List Yq2)×Yq3) (hx:Data.sm x) {k:Nat} (hk:k+cm x<=4611686018427387904):jv x (k:Int)=some (((k+cm x:Nat):Int),sO x k):=by
 unfold cm at hk
 have m0:=D8 (x.1) hx.1 (k:=k) (by omega)
 have m1:=BN (x.2) hx.2 (k:=k+smk br (x.1)) (by omega)
 unfold jv
 simp only[dC,aa,m0,m1]
 have e:k+cm x=k+smk br (x.1)+smk bt (x.2):=by unfold cm;omega
 rw[e];rfl
theorem Ik (x:(List Yq2)×Yq3) (hx:Data.sm x) {k:Nat} (hk:k+cm x<=4611686018427387904):jz (sO x k) (k:Int)=some ((k+cm x:Nat):Int):=by
 unfold cm at hk
 have m0:=D9 (x.1) hx.1 (k:=k) (by omega)
 have m1:=BO (x.2) hx.2 (k:=k+smk br (x.1)) (by omega)
 unfold jz sO
 simp only[dC,aa,Bool.false_eq_true,if_false,Lh,m0,m1]
 have e:k+cm x=k+smk br (x.1)+smk bt (x.2):=by unfold cm;omega
 rw[e]
def jB (x:(Int×Yq5)×Yq8×Yq7×ByteArray):Nat:=cq (x.1)+cm (x.2.1)+smk bu (x.2.2.1)
def sP (x:(Int×Yq5)×Yq8×Yq7×ByteArray) (k:Nat):(Int×Yq5)×Yq8×Yq7×ByteArray:=(vS (x.1) (k),sO (x.2.1) (k+cq (x.1)),mkd bu iO (x.2.2.1) (k+cq (x.1)+cm (x.2.1)),x.2.2.2)
theorem Gv (x:(Int×Yq5)×Yq8×Yq7×ByteArray) (hx:Data.sm x):jB x<=1152932499729416192:=by
 have q0:=Li (x.1) hx.1
 have q1:=Ii (x.2.1) hx.2.1
 have q2:=BP (x.2.2.1) hx.2.2.1
 unfold jB;omega
theorem Gw (x:(Int×Yq5)×Yq8×Yq7×ByteArray) (hx:Data.sm x) {k:Nat} (hk:k+jB x<=4611686018427387904):eX x (k:Int)=some (((k+jB x:Nat):Int),sP x k):=by
 unfold jB at hk
 have m0:=Lj (x.1) hx.1 (k:=k) (by omega)
 have m1:=Ij (x.2.1) hx.2.1 (k:=k+cq (x.1)) (by omega)
 have m2:=BQ (x.2.2.1) hx.2.2.1 (k:=k+cq (x.1)+cm (x.2.1)) (by omega)
 unfold eX
 simp only[dC,aa,m0,m1,m2]
 have e:k+jB x=k+cq (x.1)+cm (x.2.1)+smk bu (x.2.2.1):=by unfold jB;omega
 rw[e];rfl
theorem Ot (x:(Int×Yq5)×Yq8×Yq7×ByteArray) (hx:Data.sm x) {k:Nat} (hk:k+jB x<=4611686018427387904):gz (sP x k) (k:Int)=some ((k+jB x:Nat):Int):=by
 unfold jB at hk
 have m0:=Lk (x.1) hx.1 (k:=k) (by omega)
 have m1:=Ik (x.2.1) hx.2.1 (k:=k+cq (x.1)) (by omega)
 have m2:=BR (x.2.2.1) hx.2.2.1 (k:=k+cq (x.1)+cm (x.2.1)) (by omega)
 unfold gz sP
 simp only[dC,aa,Bool.false_eq_true,if_false,Lh,m0,m1,m2]
 have e:k+jB x=k+cq (x.1)+cm (x.2.1)+smk bu (x.2.2.1):=by unfold jB;omega
 rw[e]
end D
namespace D
abbrev Pr:=Int×Int
def ltP (a b:Pr):Prop:=a.1<b.1\/a.1=b.1/\a.2<b.2
instance (a b:Pr):Decidable (ltP a b):=inferInstanceAs (Decidable (_\/_))
end D
namespace D
open Go.RowKit
section
variable {l m:List Pr} {p:Pr}
end
end D
namespace D
open Go.RowKit
end D
set_option synthInstance.maxSize 20000
set_option synthInstance.maxHeartbeats 2000000
namespace D
open Go.RowKit
end D
set_option synthInstance.maxSize 20000
set_option synthInstance.maxHeartbeats 2000000
namespace D
open Go.RowKit
def mkB (l:List UInt8):ByteArray:=⟨l.toArray⟩
theorem Vm (a b:List UInt8):mkB a++mkB b=mkB (a++b):=ByteArray.ext (by simp[mkB])
theorem bM (a:List UInt8):(mkB a).size=a.length:=by simp[mkB,ByteArray.size]
theorem eV (a:List UInt8):(mkB a).data.toList=a:=by simp[mkB]
theorem BS (a b:List UInt8) (h:a.length+b.length<=9223372036854775807):lu (mkB a) (mkB b)=some (mkB (a++b)):=by
 unfold lu chk
 rw[bM,bM,if_pos h,aa,Vm]
theorem Zp: ∀d:Fin 10,IntKind.u8.wrap (IntKind.i64.wrap (48+(d.val:Int)))=48+(d.val:Int):=by decide
theorem Zq {d:Nat} (h:d<10):xm [IntKind.u8.wrap (IntKind.i64.wrap (48+(d:Int)))] =mkB [UInt8.ofNat (48+d)]:=by
 rw[Zp ⟨d,h⟩]
 show ByteArray.empty.push (UInt8.ofNat (48+(d:Int)).toNat)=_
 rw[show (48+(d:Int)).toNat=48+d by omega];rfl
theorem Zr (m:Int):(if decide ((Int.tmod m 10)<0) then (some (IntKind.i64.wrap (-(Int.tmod m 10)))) else (some (Int.tmod m 10)):Option Int)=some ((m.natAbs % 10:Nat):Int):=by
 by_cases h:m<0
 ·obtain ⟨k,rfl⟩: ∃k:Nat,m= -(k:Int):=⟨m.natAbs,by omega⟩
  have e:Int.tmod (-(k:Int)) 10= -((k % 10:Nat):Int):=by rw[Int.neg_tmod];rfl
  rw[e,Int.natAbs_neg,Int.natAbs_natCast]
  by_cases h0:k % 10=0
  ·rw[h0];rfl
  ·rw[if_pos (decide_eq_true (by omega)),Int.neg_neg,eY (by omega) (by omega)]
 ·obtain ⟨k,rfl⟩: ∃k:Nat,m=(k:Int):=⟨m.natAbs,by omega⟩
  have e:Int.tmod (k:Int) 10=((k % 10:Nat):Int):=rfl
  rw[e,if_neg (by simp;omega),Int.natAbs_natCast]
theorem Zb {m:Int} (h:I64 m):Px m 10=m.tdiv 10/\(m.tdiv 10).natAbs=m.natAbs / 10:=by
 have k:(m.tdiv 10).natAbs=m.natAbs / 10:=Int.natAbs_tdiv m 10
 unfold I64 at h
 refine ⟨?_,k⟩
 unfold Px
 exact eY (by omega) (by omega)
theorem Vn {m:Int} {out:List UInt8} (h0:m≠0) (h:I64 m) (hl:out.length<=1000):dn (m,mkB out)=some (.nxt (m.tdiv 10,mkB (UInt8.ofNat (48+m.natAbs % 10)::out))):=by
 unfold dn
 simp only[]
 rw[if_pos (by simpa using h0),Zr,aa,Zq (Nat.mod_lt _ (by omega)),BS _ _ (by simp;omega),aa,(Zb h).1];rfl
theorem SX (u:Nat):1<=Lib.nDigits u:=by
 by_cases h:u<10
 ·rw[Lib.nDigits_small h];omega
 ·rw[Lib.nDigits_big h];omega
theorem Ou: ∀(k:Nat) (m:Int) (out:List UInt8),m≠0->I64 m->Lib.nDigits m.natAbs<=k->out.length+Lib.nDigits m.natAbs<=100->ax dn (k+1) (m,mkB out)=some (.brk (0,mkB (Lib.decDigits m.natAbs++out)))
 | 0,m,out,_,_,h,_=>by have:=SX m.natAbs;omega
 | k+1,m,out,h0,hm,h,hl=>by
  rw[ax,Vn h0 hm (by omega)]
  show ax dn (k+1) (m.tdiv 10,_)=_
  have hq:=(Zb hm).2
  by_cases h1:m.natAbs<10
  ·have hz:m.tdiv 10=0:=by
    have:(m.tdiv 10).natAbs=0:=by rw[hq];omega
    omega
   rw[hz,ax]
   have:dn (0,mkB (UInt8.ofNat (48+m.natAbs % 10)::out))=some (.brk (0,mkB (UInt8.ofNat (48+m.natAbs % 10)::out))):=rfl
   rw[this,Lib.decDigits_one h1,Nat.mod_eq_of_lt h1];rfl
  ·have hz:m.tdiv 10≠0:=by
    intro e
    rw[e] at hq
    have:m.natAbs / 10=0:=by simpa using hq.symm
    omega
   have hn:=Lib.nDigits_big h1
   have hi:I64 (m.tdiv 10):=by unfold I64 at hm⊢;omega
   rw[Ou k _ _ hz hi (by rw[hq];omega) (by rw[hq,ak];omega),hq]
   have:Lib.decDigits m.natAbs=Lib.decDigits (m.natAbs / 10)++ [UInt8.ofNat (48+m.natAbs % 10)]:=by rw[Lib.decDigits,dif_neg h1]
   rw[this,ai];rfl
theorem qT {n:Int} (h:I64 n):(Lib.itoa n).length<=21:=Lib.itoa_length_le n h.1 h.2
theorem Yr {n:Int} (h:I64 n):Lib.nDigits n.natAbs<=21:=by
 have:=qT h
 unfold Lib.itoa at this
 split at this
 ·rw[ak,Lib.decDigits_length] at this;omega
 ·rw[Lib.decDigits_length] at this
  rw[show n.natAbs=n.toNat by omega];exact this
theorem sQ {n:Int} (h:I64 n):bY n=some (mkB (Lib.itoa n)):=by
 unfold bY
 by_cases h0:n=0
 ·subst h0
  rw[if_pos (by rfl:((0:Int)==0)=true)]
  have:Lib.itoa 0= [48]:=by unfold Lib.itoa;rw[if_neg (by decide)];exact Lib.decDigits_one (by decide)
  rw[this];rfl
 rw[if_neg (by simpa using h0)]
 have hn:=Yr h
 have hf:=dB 100 (by omega)
 obtain ⟨k,hk⟩: ∃k,aW=k+1:=⟨aW - 1,by omega⟩
 have hL:ax dn aW (n,(⟨#[]⟩:ByteArray))=some (.brk (0,mkB (Lib.decDigits n.natAbs++ []))):=by
  rw[hk];exact Ou k n [] h0 h (by omega) (by simp;omega)
 rw[aw hL,List.append_nil]
 have hd:(Lib.decDigits n.natAbs).length<=21:=by rw[Lib.decDigits_length];exact hn
 unfold Lib.itoa
 by_cases h1:n<0
 ·rw[if_pos (decide_eq_true h1),if_pos h1]
  show (lu (mkB [45]) _).bind _=_
  rw[BS _ _ (by simp;omega)];rfl
 ·rw[if_neg (by simpa using h1),if_neg h1,show n.natAbs=n.toNat by omega]
theorem vT {n:Int} (h:I64 n):cX n=some (mkB (Lib.itoa n)):=by
 unfold cX mj R.Rf chk
 rw[if_pos (show -9223372036854775808<=n/\n<=9223372036854775807 from h)];rfl
theorem Ov (xs:List (List UInt8)) (y sep:List UInt8):Lib.join (xs++ [y]) sep=if xs= [] then y else Lib.join xs sep++sep++y:=by
 cases xs with
 | nil=>rw[if_pos rfl];exact Lib.join_one _ _
 | cons x r =>
  rw[if_neg (by simp),List.cons_append,Lib.join_cons,Lib.join_cons]
  simp[Lib.joinTail,ai]
end D
namespace D
open Go.RowKit
theorem AW: ∀(a:List UInt8) (acc:Nat) (b:List UInt8),Lib.decFrom acc (a++b)=(Lib.decFrom acc a).bind fun m=>Lib.decFrom m b
 | [],acc,b=>rfl
 | x::a,acc,b=>by
  rw[List.cons_append,Lib.decFrom,Lib.decFrom]
  cases Lib.digitVal x with
  | none=>rfl
  | some d=>exact AW a _ b
theorem Ow {d:Nat} (h:d<10):Lib.digitVal (UInt8.ofNat (48+d))=some d:=by
 have e:(UInt8.ofNat (48+d)).toNat=48+d:=by simp;omega
 unfold Lib.digitVal
 rw[e,if_pos ⟨by omega,by omega⟩]
 congr 1;omega
theorem yN {u:Nat} (h: ¬u<10):Lib.decDigits u=Lib.decDigits (u / 10)++ [UInt8.ofNat (48+u % 10)]:=by rw[Lib.decDigits,dif_neg h]
theorem Il (u:Nat):Lib.decFrom 0 (Lib.decDigits u)=some u:=by
 induction u using Nat.strongRecOn with
 | _ u ih =>
  by_cases h:u<10
  ·rw[Lib.decDigits_one h,Lib.decFrom,Ow h]
   simp[Lib.decFrom]
  ·rw[yN h,AW,ih (u / 10) (by omega),aa,Lib.decFrom,Ow (Nat.mod_lt _ (by omega))]
   simp only[Lib.decFrom]
   congr 1;omega
theorem W4 (u:Nat):Lib.decDigits u≠ []:=fun h=>by
 have:=Lib.decDigits_length u
 rw[h] at this
 have:=SX u
 simp at *;omega
theorem CI (u:Nat):Lib.decNat (Lib.decDigits u)=some u:=by
 unfold Lib.decNat
 rw[if_neg (by simpa using W4 u),Il]
theorem JJ (u:Nat): ∃d r,d<10/\Lib.decDigits u=UInt8.ofNat (48+d)::r:=by
 induction u using Nat.strongRecOn with
 | _ u ih =>
  by_cases h:u<10
  ·exact ⟨u,[],h,Lib.decDigits_one h⟩
  ·obtain ⟨d,r,hd,e⟩:=ih (u / 10) (by omega)
   exact ⟨d,_,hd,by rw[yN h,e];rfl⟩
theorem Im {d:Nat} (h:d<10):(UInt8.ofNat (48+d)==45)=false/\(UInt8.ofNat (48+d)==43)=false:=by
 have: ∀d:Fin 10,(UInt8.ofNat (48+d.val)==45)=false/\(UInt8.ofNat (48+d.val)==43)=false:=by decide
 exact this ⟨d,h⟩
theorem Ox (n:Int):Lib.atoi (Lib.itoa n)=some n:=by
 unfold Lib.itoa
 by_cases h:n<0
 ·rw[if_pos h]
  show (Lib.decNat (Lib.decDigits n.natAbs)).map (fun (m:Nat)=> -(m:Int))=_
  rw[CI]
  simp;omega
 ·rw[if_neg h]
  obtain ⟨d,r,hd,e⟩:=JJ n.toNat
  have k:=CI n.toNat
  rw[e] at k⊢
  show (if (UInt8.ofNat (48+d)==45)=true then _ else if (UInt8.ofNat (48+d)==43)=true then _ else _)=_
  rw[if_neg (by rw[(Im hd).1];decide),if_neg (by rw[(Im hd).2];decide),k]
  simp;omega
def dst (p:Nat×Nat) (b:UInt8):Nat×Nat:=if 48<=b.toNat/\b.toNat<=57 then (p.1*10+(b.toNat - 48),p.2+1) else p
theorem Oy {d:Nat} (h:d<10) (p:Nat×Nat):dst p (UInt8.ofNat (48+d))=(p.1*10+d,p.2+1):=by
 have e:(UInt8.ofNat (48+d)).toNat=48+d:=by simp;omega
 unfold dst
 rw[e,if_pos ⟨by omega,by omega⟩,show 48+d - 48=d by omega]
theorem Oz (u:Nat):(Lib.decDigits u).foldl dst (0,0)=(u,Lib.nDigits u):=by
 induction u using Nat.strongRecOn with
 | _ u ih =>
  by_cases h:u<10
  ·rw[Lib.decDigits_one h,List.foldl_cons,List.foldl_nil,Oy h,Lib.nDigits_small h];simp
  ·rw[yN h,List.foldl_append,ih (u / 10) (by omega),List.foldl_cons,List.foldl_nil,Oy (Nat.mod_lt _ (by omega)),Lib.nDigits_big h]
   congr 1
   show u / 10*10+u % 10=u
   omega
theorem RA (n:Int):(Lib.itoa n).foldl dst (0,0)=(n.natAbs,Lib.nDigits n.natAbs):=by
 unfold Lib.itoa
 split
 ·rw[List.foldl_cons,show dst (0,0) 45=(0,0) from rfl,Oz]
 ·rw[Oz,show n.toNat=n.natAbs by omega]
theorem SY: ∀(l:List UInt8) (p:Nat×Nat),p.1<10 ^ p.2->(l.foldl dst p).1<10 ^ (l.foldl dst p).2
 | [],p,h=>h
 | b::l,p,h=>by
  rw[List.foldl_cons]
  refine SY l _ ?_
  unfold dst
  split
  ·rename_i k
   show p.1*10+(b.toNat - 48)<10 ^ (p.2+1)
   rw[Nat.pow_succ];omega
  ·exact h
theorem SZ: ∀(l:List UInt8) (p:Nat×Nat),(l.foldl dst p).2<=p.2+l.length
 | [],p=>by simp
 | b::l,p=>by
  rw[List.foldl_cons]
  have:=SZ l (dst p b)
  have h:(dst p b).2<=p.2+1:=by unfold dst;split <;> simp
  rw[ak];omega
end D
namespace D
open Go.RowKit
theorem W5: ∀(k u:Nat),1<=k->u<10 ^ k->Lib.nDigits u<=k
 | 0,u,h,_=>by omega
 | k+1,u,_,h=>by
  by_cases h1:u<10
  ·rw[Lib.nDigits_small h1];omega
  ·rw[Lib.nDigits_big h1]
   rw[Nat.pow_succ] at h
   have hk:1<=k:=by
    rcases k with _ | k
    ·simp at h;omega
    ·omega
   have:=W5 k (u / 10) hk (by omega)
   omega
theorem u8W: ∀d:Fin 10,IntKind.i64.wrap (IntKind.u8.wrap (d.val:Int))=(d.val:Int):=by decide
theorem yO {s:ByteArray} {i:Nat} (h:i<s.size):jG s (i:Int)=some (((s.data.toList[i]'(by simpa using h)).toNat:Nat):Int):=by
 unfold jG chk
 rw[if_pos ⟨by omega,by omega⟩]
 simp only[aa]
 rw[show (i:Int).toNat=i by omega,List.getD_eq_getElem?_getD,List.getElem?_eq_getElem (by simpa using h)]
 rfl
def dtk (s:ByteArray) (i:Nat):Nat×Nat:=(s.data.toList.take i).foldl dst (0,0)
theorem OA (s:ByteArray) (i:Nat):(dtk s i).1<10 ^ (dtk s i).2/\(dtk s i).2<=i:=by
 refine ⟨SY _ _ (by decide),?_⟩
 have:=SZ (s.data.toList.take i) (0,0)
 rw[aE] at this
 unfold dtk
 omega
theorem Vo (s:ByteArray):ax (gZ s) aW (0,0,0)=some (.brk (((dtk s (min s.size 11)).1:Int),((dtk s (min s.size 11)).2:Int),((min s.size 11:Nat):Int))):=by
 refine bc (f:=gZ s) (fun i=>(((dtk s i).1:Int),((dtk s i).2:Int),(i:Int))) (min s.size 11) (fun i hi=>?_) ?_ (dB _ (by omega))
 ·have h1:i<s.size:=by omega
  have hl:i<s.data.toList.length:=by simpa using h1
  have hd:dtk s (i+1)=dst (dtk s i) (s.data.toList[i]):=by
   unfold dtk
   rw[List.take_succ_eq_append_getElem hl,List.foldl_append];rfl
  obtain ⟨b1,b2⟩:=OA s i
  have b3:10 ^ (dtk s i).2<=10 ^ 10:=Nat.pow_le_pow_right (by omega) (by omega)
  unfold gZ
  simp only[]
  rw[if_pos (decide_eq_true (by omega)),if_pos (decide_eq_true (by omega)),yO h1,hd]
  generalize s.data.toList[i] =b
  generalize dtk s i=p at *
  simp only[aa]
  unfold dst
  by_cases c1:48<=b.toNat
  ·rw[if_pos (decide_eq_true (by omega))]
   by_cases c2:b.toNat<=57
   ·rw[if_pos (decide_eq_true (by omega)),if_pos ⟨c1,c2⟩]
    obtain ⟨d,hd,e⟩: ∃d,d<10/\b.toNat=48+d:=⟨b.toNat - 48,by omega,by omega⟩
    rw[e,show ((48+d:Nat):Int) - 48=(d:Int) by omega,u8W ⟨d,hd⟩]
    simp only[aa]
    rw[eY (n:=(p.1:Int)*10) (by omega) (by omega),eY (by show _<=_+(d:Int);omega) (by show _+(d:Int)<=_;omega),af (by omega),af (by omega)]
    congr 4
    show (p.1:Int)*10+(d:Int)=((p.1*10+(48+d - 48):Nat):Int)
    omega
   ·rw[if_neg (by simp;omega),if_neg (by omega)]
    simp only[aa]
    rw[af (by omega)]
  ·rw[if_neg (by simp;omega),if_neg (by omega)]
   simp only[aa]
   rw[af (by omega)]
 ·unfold gZ
  simp only[]
  by_cases h:s.size<=11
  ·rw[Nat.min_eq_left h,if_neg (by simp)]
  ·rw[Nat.min_eq_right (by omega),if_pos (decide_eq_true (by omega)),if_neg (by simp)]
def sgn (s:ByteArray):Int:=if s.data.toList.head? =some 45 then -((dtk s (min s.size 11)).1:Int) else ((dtk s (min s.size 11)).1:Int)
theorem S4 (s:ByteArray):(sgn s).natAbs<10 ^ (dtk s (min s.size 11)).2/\(sgn s).natAbs<10 ^ 11:=by
 obtain ⟨b1,b2⟩:=OA s (min s.size 11)
 have b3:10 ^ (dtk s (min s.size 11)).2<=10 ^ 11:=Nat.pow_le_pow_right (by omega) (by omega)
 have:(sgn s).natAbs=(dtk s (min s.size 11)).1:=by unfold sgn;split <;> omega
 omega
theorem S5 (s:ByteArray):fK s=if 9<(dtk s (min s.size 11)).2\/10<s.size then some (0,false) else if mkB (Lib.itoa (sgn s))=s then some (sgn s,true) else some (0,false):=by
 have hs:=(S4 s).2
 have hi:I64 (sgn s):=by unfold I64;omega
 obtain ⟨b1,b2⟩:=OA s (min s.size 11)
 have b3:10 ^ (dtk s (min s.size 11)).2<=10 ^ 11:=Nat.pow_le_pow_right (by omega) (by omega)
 have fin: ∀z:Int,z=sgn s->(if decide (((dtk s (min s.size 11)).2:Int)>9) then (some (0,false)) else (if decide (((s.size:Nat):Int)>10) then (some (0,false)) else ((bY z).bind fun r10=>if r10 !=s then (some (0,false)) else (some (z,true)))):Option (Int×Bool))=if 9<(dtk s (min s.size 11)).2\/10<s.size then some (0,false) else if mkB (Lib.itoa (sgn s))=s then some (sgn s,true) else some (0,false):=by
  rintro z rfl
  by_cases c1:9<(dtk s (min s.size 11)).2
  ·rw[if_pos (decide_eq_true (by omega)),if_pos (Or.inl c1)]
  ·rw[if_neg (by simp;omega)]
   by_cases c2:10<s.size
   ·rw[if_pos (decide_eq_true (by omega)),if_pos (Or.inr c2)]
   ·rw[if_neg (by simp;omega),if_neg (by omega),sQ hi,aa]
    by_cases c3:mkB (Lib.itoa (sgn s))=s
    ·rw[if_pos c3,if_neg (by simp[c3])]
    ·rw[if_neg c3,if_pos (by simpa using c3)]
 unfold fK
 rw[aw (Vo s)]
 simp only[]
 by_cases h0:0<s.size
 ·rw[if_pos (decide_eq_true (by omega))]
  have hl:0<s.data.toList.length:=by simpa using h0
  have e0:jG s 0=some (((s.data.toList[0]).toNat:Nat):Int):=yO (i:=0) h0
  have eh:s.data.toList.head? =some s.data.toList[0]:=by rw[List.head?_eq_getElem?,List.getElem?_eq_getElem hl]
  rw[e0,aa]
  by_cases c:s.data.toList[0] =45
  ·rw[if_pos (by rw[c];rfl),aa,eY (by omega) (by omega)]
   exact fin _ (by unfold sgn;rw[eh,if_pos (by rw[c])])
  ·have hn:(s.data.toList[0]).toNat≠45:=fun e=>c (UInt8.toNat_inj.1 e)
   rw[if_neg (fun e=>hn (by have:=eq_of_beq e;omega)),aa]
   exact fin _ (by unfold sgn;rw[eh,if_neg (by simpa using c)])
 ·rw[if_neg (by rw[decide_eq_true_eq];omega)]
  have he:s.data.toList.head? =none:=by
   have:s.data.toList= []:=List.eq_nil_of_length_eq_zero (by
    have:s.data.toList.length=s.size:=by simp
    omega)
   rw[this];rfl
  exact fin _ (by unfold sgn;rw[he,if_neg (by simp)])
theorem RB {n:Int} (h: -999999999<=n/\n<=999999999):Lib.nDigits n.natAbs<=9/\(Lib.itoa n).length<=10:=by
 have k:Lib.nDigits n.natAbs<=9:=W5 9 _ (by omega) (by omega)
 refine ⟨k,?_⟩
 unfold Lib.itoa
 split
 ·rw[ak,Lib.decDigits_length];omega
 ·rw[Lib.decDigits_length,show n.toNat=n.natAbs by omega];omega
theorem OB (n:Int):((Lib.itoa n).head? =some 45)↔n<0:=by
 unfold Lib.itoa
 split
 ·rename_i h;simp[h]
 ·rename_i h
  obtain ⟨d,r,hd,e⟩:=JJ n.toNat
  rw[e]
  have:=(Im hd).1
  simp only[List.head?_cons,Option.some.injEq]
  constructor
  ·intro k;rw[k] at this;simp at this
  ·intro k;omega
theorem Ea {n:Int} (h: -999999999<=n/\n<=999999999):fK (mkB (Lib.itoa n))=some (n,true)/\fM (mkB (Lib.itoa n))=some (n,true):=by
 obtain ⟨h9,h10⟩:=RB h
 constructor
 ·have ed:dtk (mkB (Lib.itoa n)) (min (mkB (Lib.itoa n)).size 11)=(n.natAbs,Lib.nDigits n.natAbs):=by
   unfold dtk
   rw[eV,bM,Nat.min_eq_left (by omega),List.take_length,RA]
  have es:sgn (mkB (Lib.itoa n))=n:=by
   unfold sgn
   rw[ed,eV]
   by_cases c:n<0
   ·rw[if_pos ((OB n).2 c)];show -(n.natAbs:Int)=n;omega
   ·rw[if_neg fun k=>c ((OB n).1 k)];show (n.natAbs:Int)=n;omega
  rw[S5,ed,es,bM,if_neg (by show¬(9<Lib.nDigits n.natAbs\/_);omega),if_pos rfl]
 ·unfold fM R.rq
  rw[bM,eV,if_neg (by omega),Ox]
  show (if _ then _ else _)=_
  rw[if_pos ⟨rfl,h.1,h.2⟩]
theorem JK {s:ByteArray} (h: ¬ ∃n:Int,(-999999999<=n/\n<=999999999)/\s=mkB (Lib.itoa n)):fK s=some (0,false)/\fM s=some (0,false):=by
 constructor
 ·rw[S5]
  by_cases c:9<(dtk s (min s.size 11)).2\/10<s.size
  ·rw[if_pos c]
  ·rw[if_neg c,if_neg]
   intro e
   have b1:=(S4 s).1
   have b3:10 ^ (dtk s (min s.size 11)).2<=10 ^ 9:=Nat.pow_le_pow_right (by omega) (by omega)
   exact h ⟨sgn s,by omega,e.symm⟩
 ·unfold fM R.rq
  by_cases c:10<s.size
  ·rw[if_pos c]
  ·rw[if_neg c]
   cases ha:Lib.atoi s.data.toList with
   | none=>rfl
   | some n =>
    show (if _ then _ else _)=_
    rw[if_neg fun k=>h ⟨n,k.2,k.1.symm⟩]
theorem ql (s:ByteArray): ∃r:Int×Bool,fK s=some r/\fM s=some r/\((r.2=true/\(-999999999<=r.1/\r.1<=999999999)/\s=mkB (Lib.itoa r.1))\/r=(0,false)):=by
 by_cases h: ∃n:Int,(-999999999<=n/\n<=999999999)/\s=mkB (Lib.itoa n)
 ·obtain ⟨n,hn,rfl⟩:=h
  exact ⟨_,(Ea hn).1,(Ea hn).2,.inl ⟨rfl,hn,rfl⟩⟩
 ·exact ⟨_,(JK h).1,(JK h).2,.inr rfl⟩
end D
namespace D
open Go.RowKit
abbrev AutT:=Int×(List Bool)×(List (List Int))
structure VA (a:AutT) (n:Nat):Prop where
 len:a.2.1.length=n
 start:0<=a.1/\a.1<n
 nlen:a.2.2.length=n
 row: ∀r∈a.2.2,r.length=9
 ent: ∀r∈a.2.2,∀t∈r,-1<=t/\t<n
def mv (a:AutT) (s:Int) (k:Nat):Int:=nth (nth a.2.2 s) k
theorem LD (x l h:Int):cD x l h=some (decide (l<=x/\x<=h)):=by
 unfold cD
 by_cases c:l<=x
 ·simp[c]
 ·have: ¬l<=x/\True:=⟨c,trivial⟩
  simp[c]
theorem GQ (x l h:Int):bV x l h=some (decide (l<=x/\x<=h)):=by
 unfold bV
 by_cases c:l<=x
 ·simp[c]
 ·simp[c]
theorem scan {α R:Type} [Inhabited α] {f:Int->Option (Out R Int)} (xs:List α) (p:α->Prop) [DecidablePred p] (r:R) (hN:xs.length<=9223372036854775807)
  (h: ∀i:Nat,i<xs.length->f (i:Int)=some (if p (nth xs i) then .nxt ((i+1:Nat):Int) else .ret r)) (he:f (xs.length:Int)=some (.brk (xs.length:Int))) :
  (ax f aW 0=some (.brk (xs.length:Int))/\ ∀x∈xs,p x)\/(ax f aW 0=some (.ret r)/\ ¬ ∀x∈xs,p x):=by
 obtain ⟨o,e,hq⟩:=cY (f:=f) (fun i s=>s=(i:Int)/\ ∀j:Nat,j<i->p (nth xs j)) (fun o=>(o= .brk (xs.length:Int)/\ ∀x∈xs,p x)\/(o= .ret r/\ ¬ ∀x∈xs,p x)) xs.length (s:=0) (by
  rintro i s hi ⟨rfl,hp⟩
  by_cases hl:i<xs.length
  ·by_cases c:p (nth xs i)
   ·refine .inl ⟨hl,_,by rw[h i hl,if_pos c],rfl,fun j hj=>?_⟩
    by_cases e:j=i
    ·subst e;exact c
    ·exact hp j (by omega)
   ·refine .inr ⟨_,by rw[h i hl,if_neg c],(fun s' e=>by cases e),.inr ⟨rfl,fun hx=>c (hx _ (b7 (by omega) (by omega)))⟩⟩
  ·obtain rfl:i=xs.length:=by omega
   refine .inr ⟨_,he,(fun s' e=>by cases e),.inl ⟨rfl,fun x hx=>?_⟩⟩
   obtain ⟨j,hj,rfl⟩:=Ih hx
   exact hp j hj) ⟨rfl,by omega⟩ (tL hN)
 rcases hq with ⟨rfl,hq⟩ | ⟨rfl,hq⟩
 ·exact .inl ⟨e,hq⟩
 ·exact .inr ⟨e,hq⟩
section
variable {a:AutT} {n:Nat} (V:VA a n)
include V
theorem VA.pos:0<n:=by have:=V.start;omega
theorem VA.rowAt {s:Int} (h0:0<=s) (h1:s<n):(nth a.2.2 s).length=9:=V.row _ (b7 h0 (by rw[V.nlen];exact h1))
theorem VA.mv {s:Int} {k:Nat} (h0:0<=s) (h1:s<n) (hk:k<9): -1<=mv a s k/\mv a s k<n:=
 V.ent _ (b7 h0 (by rw[V.nlen];exact h1)) _ (b7 (by omega) (by rw[V.rowAt h0 h1];omega))
theorem VA.get {s:Int} (h0:0<=s) (h1:s<n):aQ a.2.2 s=some (nth a.2.2 s):=aC h0 (by rw[V.nlen];exact h1)
theorem VA.get2 {s:Int} {k:Nat} (h0:0<=s) (h1:s<n) (hk:k<9):aQ (nth a.2.2 s) (k:Int)=some (D.mv a s k):=aC (by omega) (by rw[V.rowAt h0 h1];omega)
theorem VA.acc {s:Int} (h0:0<=s) (h1:s<n):aQ a.2.1 s=some (nth a.2.1 s):=aC h0 (by rw[V.len];exact h1)
theorem W6 {s:Int} {k:Nat} (h0:0<=s) (h1:s<n) (hk:k<9):eN a s (k:Int)=some (mv a s k):=by
 unfold eN jM
 rw[if_neg (by simp;omega),GQ];simp only[aa]
 rw[if_pos (by simp;omega),V.get h0 h1];simp only[aa]
 rw[V.get2 h0 h1 hk];rfl
end
end D
namespace D
open Go.RowKit
theorem Eb (s:ByteArray):fJ s=jO s:=by
 have e:fC s=nw s:=by
  funext p
  unfold fC nw
  rw[Int.mul_comm p.1 257]
 unfold fJ jO
 rw[e]
theorem Gx (s:ByteArray) (h:s.size<=9223372036854775806): ∃r:Int,fJ s=some r/\jO s=some r/\0<=r/\r<=9972:=by
 obtain ⟨p,e,h1,h2,h3⟩:=nT (f:=fC s) (fun i p=>p.2=(i:Int)/\0<=p.1/\p.1<=9972) s.size (fun i p hi hI=>by
  obtain ⟨n,j⟩:=p
  obtain ⟨h1,h2,h3⟩:=hI
  simp only at h1 h2 h3
  subst h1
  unfold fC
  simp only[]
  rw[if_pos (decide_eq_true (by omega)),yO hi]
  simp only[aa]
  generalize s.data.toList[i] =b
  have hb:b.toNat<256:=b.toNat_lt
  rw[eY (n:=((b.toNat:Nat):Int)) (by omega) (by omega),eY (n:=n*257) (by omega) (by omega),eY (n:=n*257+(b.toNat:Int)) (by omega) (by omega),eY (n:=n*257+(b.toNat:Int)+1) (by omega) (by omega),af (by omega)]
  refine ⟨_,rfl,rfl,?_,?_⟩
  ·exact Int.tmod_nonneg _ (by omega)
  ·have:Int.tmod (n*257+(b.toNat:Int)+1) 9973<9973:=Int.tmod_lt_of_pos _ (by decide)
   show Int.tmod (n*257+(b.toNat:Int)+1) 9973<=9972
   omega) (fun p hI=>by
  obtain ⟨n,j⟩:=p
  obtain ⟨h1,-⟩:=hI
  simp only at h1
  subst h1
  unfold fC
  simp only[]
  rw[if_neg (by simp)]) (s:=(1,0)) ⟨rfl,by decide,by decide⟩ (dB _ (by omega))
 have k:fJ s=some p.1:=by
  unfold fJ
  rw[aw e]
 exact ⟨p.1,k,by rw[<-Eb];exact k,h2,h3⟩
def edOk (e:Int×Int×Int×Int):Prop:=(1<=e.1/\e.1<=99)/\(0<=e.2.1/\e.2.1<=4)/\(0<=e.2.2.1/\e.2.2.1<=4)/\(0<=e.2.2.2/\e.2.2.2<=2)
instance (e:Int×Int×Int×Int):Decidable (edOk e):=inferInstanceAs (Decidable (_/\_))
def se (e:Int×Int×Int×Int):List UInt8:=Lib.itoa e.1++ [58] ++Lib.itoa e.2.1++ [UInt8.ofNat (97+e.2.2.2.toNat)] ++Lib.itoa e.2.2.1
theorem RC: ∀k:Fin 3,eF (IntKind.i64.wrap (2*(k.val:Int)))=some (mkB [UInt8.ofNat (97+k.val)]):=by
 intro k
 match k with
 | ⟨0,_⟩=>rfl
 | ⟨1,_⟩=>rfl
 | ⟨2,_⟩=>rfl
theorem RD: ∀k:Fin 3,qV (⟨#[97,98,99]⟩) (k.val:Int) (IntKind.i64.wrap ((k.val:Int)+1))=some (mkB [UInt8.ofNat (97+k.val)]):=by
 intro k
 match k with
 | ⟨0,_⟩=>rfl
 | ⟨1,_⟩=>rfl
 | ⟨2,_⟩=>rfl
theorem OC (e:Int×Int×Int×Int):iZ e=some (if edOk e then mkB (se e) else mkB []):=by
 unfold iZ
 rw[LD,LD,LD,LD]
 simp only[aa]
 by_cases h:edOk e
 ·obtain ⟨h1,h2,h3,h4⟩:=h
  rw[if_pos (decide_eq_true h1),if_pos (decide_eq_true h2),if_pos (decide_eq_true h3),if_pos (decide_eq_true h4),if_pos ⟨h1,h2,h3,h4⟩]
  have i1:I64 e.1:=by unfold I64;omega
  have i2:I64 e.2.1:=by unfold I64;omega
  have i3:I64 e.2.2.1:=by unfold I64;omega
  have n1:=qT i1
  have n2:=qT i2
  have n3:=qT i3
  obtain ⟨k,hk,ek⟩: ∃k:Nat,k<3/\e.2.2.2=(k:Int):=⟨e.2.2.2.toNat,by omega,by omega⟩
  rw[sQ i1,sQ i2,sQ i3,ek,RC ⟨k,hk⟩]
  simp only[aa]
  have c1:lu (mkB (Lib.itoa e.1)) (⟨#[58]⟩)=some (mkB (Lib.itoa e.1++ [58])):=BS _ [58] (by simp;omega)
  rw[c1]
  simp only[aa]
  rw[BS _ _ (by simp;omega)]
  simp only[aa]
  rw[BS _ _ (by simp;omega)]
  simp only[aa]
  rw[BS _ _ (by simp;omega)]
  simp only[aa]
  unfold se
  rw[ek];rfl
 ·rw[if_neg h]
  split
  ·split
   ·split
    ·split
     ·rename_i a b c d
      exact absurd ⟨of_decide_eq_true a,of_decide_eq_true b,of_decide_eq_true c,of_decide_eq_true d⟩ h
     ·rfl
    ·rfl
   ·rfl
  ·rfl
theorem OD (e:Int×Int×Int×Int):ja e=some (if edOk e then mkB (se e) else mkB []):=by
 have h5:IntKind.i64.wrap (5 - 1)=4:=by decide
 have hok:jL (e.1,e.2.1,e.2.2.1,e.2.2.2) 5=some (decide (edOk e)):=by
  unfold jL
  rw[h5,GQ,GQ,GQ,GQ]
  simp only[aa]
  by_cases h1:1<=e.1/\e.1<=99
  ·rw[if_pos (decide_eq_true h1)]
   by_cases h2:0<=e.2.1/\e.2.1<=4
   ·rw[if_pos (decide_eq_true h2)]
    by_cases h3:0<=e.2.2.1/\e.2.2.1<=4
    ·rw[if_pos (decide_eq_true h3)]
     congr 1
     exact decide_eq_decide.2 ⟨fun h4=>⟨h1,h2,h3,h4⟩,fun h=>h.2.2.2⟩
    ·rw[if_neg (by simpa using h3),decide_eq_false (fun h:edOk e=>h3 h.2.2.1)]
   ·rw[if_neg (by simpa using h2),decide_eq_false (fun h:edOk e=>h2 h.2.1)]
  ·rw[if_neg (by simpa using h1),decide_eq_false (fun h:edOk e=>h1 h.1)]
 unfold ja
 rw[hok]
 simp only[aa]
 by_cases h:edOk e
 ·rw[if_pos (decide_eq_true h),if_pos h]
  obtain ⟨h1,h2,h3,h4⟩:=h
  have i1:I64 e.1:=by unfold I64;omega
  have i2:I64 e.2.1:=by unfold I64;omega
  have i3:I64 e.2.2.1:=by unfold I64;omega
  have n1:=qT i1
  have n2:=qT i2
  have n3:=qT i3
  obtain ⟨k,hk,ek⟩: ∃k:Nat,k<3/\e.2.2.2=(k:Int):=⟨e.2.2.2.toNat,by omega,by omega⟩
  rw[vT i1,vT i2,vT i3,ek,RD ⟨k,hk⟩]
  simp only[aa]
  have c1:lu (mkB (Lib.itoa e.1)) (⟨#[58]⟩)=some (mkB (Lib.itoa e.1++ [58])):=BS _ [58] (by simp;omega)
  rw[c1]
  simp only[aa]
  rw[BS _ _ (by simp;omega)]
  simp only[aa]
  rw[BS _ _ (by simp;omega)]
  simp only[aa]
  rw[BS _ _ (by simp;omega)]
  simp only[aa]
  unfold se
  rw[ek];rfl
 ·rw[if_neg (by simpa using h),if_neg h];rfl
end D
namespace D
open Go.RowKit
abbrev ChT:Type:=Bool×Int×Int×Int×Int
def oS (c:ChT):List UInt8:=(if c.1 then 43 else 45)::se c.2
def btx (l:List ChT):List UInt8:=Lib.join (l.map oS) [32]
def yP (l:List ChT):Prop:= ∀c,c∈l->edOk c.2
theorem sR {e:Int×Int×Int×Int} (h:edOk e):(se e).length<=70:=by
 obtain ⟨h1,h2,h3,h4⟩:=h
 have n1:=qT (n:=e.1) (by unfold I64;omega)
 have n2:=qT (n:=e.2.1) (by unfold I64;omega)
 have n3:=qT (n:=e.2.2.1) (by unfold I64;omega)
 unfold se
 simp only[al,ak,aH];omega
theorem OE (e:Int×Int×Int×Int):(mkB (se e)==(⟨#[]⟩:ByteArray))=false:=by
 rw[beq_eq_false_iff_ne]
 intro k
 have:=congrArg ByteArray.size k
 rw[bM] at this
 unfold se at this
 simp only[al,ak,aH] at this
 have e0:(⟨#[]⟩:ByteArray).size=0:=rfl
 omega
theorem OF: ∀(r:List ChT),yP r->(Lib.joinTail [32] (r.map oS)).length<=72*r.length
 | [],_=>by simp[Lib.joinTail]
 | c::r,h=>by
  have h1:=OF r fun q hq=>h q (bh _ hq)
  have h2:=sR (h c (by simp))
  have e:Lib.joinTail [32] ((c::r).map oS)=([32] ++oS c)++Lib.joinTail [32] (r.map oS):=by simp[Lib.joinTail]
  rw[e,al,al,ak]
  unfold oS
  simp only[ak,aH]
  unfold oS at h1
  omega
theorem Ec {l:List ChT} (h:yP l):(btx l).length<=72*l.length:=by
 cases l with
 | nil=>simp[btx,Lib.join_nil]
 | cons c r =>
  have h1:=OF r fun q hq=>h q (bh _ hq)
  have h2:=sR (h c (by simp))
  unfold btx
  rw[List.map_cons,Lib.join_cons,al,ak]
  have:(oS c).length=(se c.2).length+1:=by unfold oS;rw[ak]
  omega
theorem RE {l:List ChT} {i:Nat} (hi:i<l.length):btx (l.take (i+1))=if i=0 then oS l[i] else btx (l.take i)++ [32] ++oS l[i]:=by
 unfold btx
 rw[List.take_succ_eq_append_getElem hi,aO,List.map_cons,List.map_nil,Ov]
 by_cases h:i=0
 ·subst h;rw[if_pos (by simp),if_pos rfl]
 ·rw[if_neg (by
   intro e
   have:=congrArg List.length e
   rw[List.length_map,aE,aH] at this
   omega),if_neg h]
theorem Gy {l:List ChT} {i:Nat} (hi:i<l.length) (h:yP (l.take i)) (k:edOk l[i].2):yP (l.take (i+1)):=by
 rw[List.take_succ_eq_append_getElem hi]
 intro c hc
 rcases aJ hc with hc | hc
 ·exact h c hc
 ·obtain rfl:=ay hc;exact k
theorem Vp {l:List ChT} (hl:l.length<=6):(yP l/\ax (eP l) aW (([] :List ByteArray),0)=some (.brk (l.map (fun c=>mkB (oS c)),(l.length:Int))))\/(¬yP l/\ax (eP l) aW (([] :List ByteArray),0)=some (.ret (mkB []))):=by
 obtain ⟨o,e,hQ⟩:=cY (f:=eP l) (fun i s=>s=((l.take i).map (fun c=>mkB (oS c)),(i:Int))/\yP (l.take i)) (fun o=>(yP l/\o= .brk (l.map (fun c=>mkB (oS c)),(l.length:Int)))\/(¬yP l/\o= .ret (mkB []))) l.length (fun i s hi hI=>by
  obtain ⟨rfl,hb⟩:=hI
  unfold eP
  simp only[]
  by_cases h1:i<l.length
  ·rw[bK h1,if_pos rfl,aF h1]
   simp only[aa]
   rw[OD]
   simp only[aa]
   by_cases k:edOk l[i].2
   ·have n1:=sR k
    have c1:lu (⟨#[43]⟩) (mkB (se l[i].2))=some (mkB (43::se l[i].2)):=BS [43] _ (by simp;omega)
    have c2:lu (⟨#[45]⟩) (mkB (se l[i].2))=some (mkB (45::se l[i].2)):=BS [45] _ (by simp;omega)
    have hx: ∀z:ByteArray,cJ 16 ((l.take i).map (fun c=>mkB (oS c))) [z] =some ((l.take i).map (fun c=>mkB (oS c))++ [z]):=fun z=>aL (by rw[List.length_map,aE];simp only[ak,aH];omega)
    refine .inl ⟨h1,((l.take (i+1)).map (fun c=>mkB (oS c)),((i+1:Nat):Int)),?_,rfl,Gy h1 hb k⟩
    rw[if_pos k,if_neg (by rw[OE];decide),c1,c2]
    simp only[aa]
    rw[hx,hx,List.take_succ_eq_append_getElem h1,aO,List.map_cons,List.map_nil,<-af (show i<9223372036854775807 by omega)]
    have ec:oS l[i] =(if l[i].1=true then 43 else 45)::se l[i].2:=rfl
    rw[ec]
    generalize l[i].1=t
    cases t <;> rfl
   ·refine .inr ⟨.ret (mkB []),?_,fun s' h=>(by simp at h),.inr ⟨fun h=>k (h _ (List.getElem_mem h1)),rfl⟩⟩
    rw[if_neg k];rfl
  ·obtain rfl:i=l.length:=by omega
   rw[List.take_length] at hb
   refine .inr ⟨_,by rw[bm];rfl,fun s' h=>(by simp at h),.inl ⟨hb,by rw[List.take_length]⟩⟩) (s:=([],0)) ⟨rfl,fun c hc=>by simp at hc⟩ (dB _ (by omega))
 rcases hQ with ⟨h,rfl⟩ | ⟨h,rfl⟩
 ·exact .inl ⟨h,e⟩
 ·exact .inr ⟨h,e⟩
theorem Vq {l:List ChT} (hl:l.length<=6):(yP l/\ax (eK l) aW ((⟨#[]⟩:ByteArray),0)=some (.brk (mkB (btx l),(l.length:Int))))\/(¬yP l/\ax (eK l) aW ((⟨#[]⟩:ByteArray),0)=some (.ret (mkB []))):=by
 obtain ⟨o,e,hQ⟩:=cY (f:=eK l) (fun i s=>s=(mkB (btx (l.take i)),(i:Int))/\yP (l.take i)) (fun o=>(yP l/\o= .brk (mkB (btx l),(l.length:Int)))\/(¬yP l/\o= .ret (mkB []))) l.length (fun i s hi hI=>by
  obtain ⟨rfl,hb⟩:=hI
  have hn:=Ec hb
  rw[aE] at hn
  unfold eK
  simp only[]
  by_cases h1:i<l.length
  ·rw[bK h1,if_pos rfl,aF h1]
   simp only[aa]
   rw[OC]
   simp only[aa]
   by_cases k:edOk l[i].2
   ·have n1:=sR k
    refine .inl ⟨h1,(mkB (btx (l.take (i+1))),((i+1:Nat):Int)),?_,rfl,Gy h1 hb k⟩
    rw[if_pos k,if_neg (by rw[OE];decide),RE h1,<-af (show i<9223372036854775807 by omega)]
    have ec:oS l[i] =(if l[i].1=true then 43 else 45)::se l[i].2:=rfl
    rw[ec]
    generalize l[i].1=t
    have g1: ∀(a:List UInt8) (b:UInt8),a.length<=1000->lu (mkB a) (mkB [b])=some (mkB (a++ [b])):=fun a b ha=>BS _ _ (by simp;omega)
    have g2: ∀(a:List UInt8) (b:UInt8),a.length<=1000->lu (mkB (a++ [b])) (mkB (se l[i].2))=some (mkB (a++b::se l[i].2)):=fun a b ha=>by
     rw[BS _ _ (by simp;omega),ai];rfl
    by_cases h0:i=0
    ·subst h0
     have eb:btx (l.take 0)= []:=rfl
     have q1:=g1 [] 43 (by simp)
     have q2:=g1 [] 45 (by simp)
     have q3:=g2 [] 43 (by simp)
     have q4:=g2 [] 45 (by simp)
     have l1:(⟨#[43]⟩:ByteArray)=mkB [43]:=rfl
     have l2:(⟨#[45]⟩:ByteArray)=mkB [45]:=rfl
     rw[eb,if_pos rfl,if_neg (by simp)]
     simp only[aa]
     rw[l1,l2,q1,q2]
     simp only[aa]
     rw[q3,q4]
     cases t <;> rfl
    ·have hs:=g1 (btx (l.take i)) 32 (by omega)
     have q1:=g1 (btx (l.take i)++ [32]) 43 (by simp;omega)
     have q2:=g1 (btx (l.take i)++ [32]) 45 (by simp;omega)
     have q3:=g2 (btx (l.take i)++ [32]) 43 (by simp;omega)
     have q4:=g2 (btx (l.take i)++ [32]) 45 (by simp;omega)
     have l1:(⟨#[43]⟩:ByteArray)=mkB [43]:=rfl
     have l2:(⟨#[45]⟩:ByteArray)=mkB [45]:=rfl
     have l3:(⟨#[32]⟩:ByteArray)=mkB [32]:=rfl
     rw[if_neg h0,if_pos (decide_eq_true (by omega)),l1,l2,l3,hs]
     simp only[aa]
     rw[q1,q2]
     simp only[aa]
     rw[q3,q4]
     cases t <;> rfl
   ·refine .inr ⟨.ret (mkB []),?_,fun s' h=>(by simp at h),.inr ⟨fun h=>k (h _ (List.getElem_mem h1)),rfl⟩⟩
    rw[if_neg k];rfl
  ·obtain rfl:i=l.length:=by omega
   rw[List.take_length] at hb
   refine .inr ⟨_,by rw[bm];rfl,fun s' h=>(by simp at h),.inl ⟨hb,by rw[List.take_length]⟩⟩) (s:=((⟨#[]⟩:ByteArray),0)) ⟨rfl,fun c hc=>by simp at hc⟩ (dB _ (by omega))
 rcases hQ with ⟨h,rfl⟩ | ⟨h,rfl⟩
 ·exact .inl ⟨h,e⟩
 ·exact .inr ⟨h,e⟩
open Classical in
theorem sS (l:List ChT):cL l=some (if l.length<=6/\yP l then mkB (btx l) else mkB [])/\dR l=some (if l.length<=6/\yP l then mkB (btx l) else mkB []):=by
 unfold cL dR
 by_cases h6:l.length<=6
 ·have hd: ¬decide ((l.length:Int)>6)=true:=by rw[decide_eq_true_eq];omega
  constructor
  ·rw[if_neg hd]
   rcases Vq h6 with ⟨h,e⟩ | ⟨h,e⟩
   ·rw[aw e,if_pos ⟨h6,h⟩]
   ·rw[cC e,if_neg fun k=>h k.2]
  ·rw[if_neg hd]
   rcases Vp h6 with ⟨h,e⟩ | ⟨h,e⟩
   ·have hn:=Ec h
    rw[aw e,if_pos ⟨h6,h⟩]
    show (jl (l.map fun p=>mkB (oS p)) (mkB [32])).bind _=_
    unfold jl R.Re chk
    have e:(l.map fun p=>mkB (oS p)).map (·.data.toList)=l.map oS:=by
     rw[List.map_map]
     exact List.map_congr_left fun p _=>eV _
    rw[e,eV,List.length_map,if_pos ⟨by omega,by show (btx l).length<=_;omega⟩];rfl
   ·rw[cC e,if_neg fun k=>h k.2]
 ·have hd:decide ((l.length:Int)>6)=true:=decide_eq_true (by omega)
  constructor
  ·rw[if_pos hd,if_neg fun k=>h6 k.1];rfl
  ·rw[if_pos hd,if_neg fun k=>h6 k.1];rfl
end D
namespace D
open Go.RowKit
theorem AX (v:Int) (l:List ChT): ∃r:ByteArray,dq v l=some r/\eH v l=some r/\r.size<=1000:=by
 obtain ⟨es,ei⟩:=sS l
 obtain ⟨t,et,hn⟩: ∃t:List UInt8,(cL l=some (mkB t)/\dR l=some (mkB t))/\t.length<=432:=by
  by_cases h:l.length<=6/\yP l
  ·have:=Ec h.2
   refine ⟨btx l,⟨?_,?_⟩,by omega⟩
   ·rw[es,if_pos h]
   ·rw[ei,if_pos h]
  ·refine ⟨[],⟨?_,?_⟩,by simp⟩
   ·rw[es,if_neg h]
   ·rw[ei,if_neg h]
 obtain ⟨e1,e2⟩:=et
 unfold dq eH
 rw[e1,e2,LD,GQ]
 simp only[aa]
 by_cases hv:1<=v/\v<=999
 ·have iv:I64 v:=by unfold I64;omega
  have nv:=qT iv
  have c1:lu (mkB (Lib.itoa v)) (⟨#[59]⟩)=some (mkB (Lib.itoa v++ [59])):=BS _ [59] (by simp;omega)
  have c2:lu (mkB (Lib.itoa v++ [59])) (mkB t)=some (mkB (Lib.itoa v++ [59] ++t)):=BS _ _ (by simp;omega)
  have c3:lu (mkB (Lib.itoa v++ [59] ++t)) (⟨#[59]⟩)=some (mkB (Lib.itoa v++ [59] ++t++ [59])):=BS _ [59] (by simp;omega)
  obtain ⟨q,k1,k2,q1,q2⟩:=Gx (mkB (Lib.itoa v++ [59] ++t++ [59])) (by rw[bM];simp;omega)
  have iq:I64 q:=by unfold I64;omega
  have nq:=qT iq
  have c4:lu (mkB (Lib.itoa v++ [59] ++t++ [59])) (mkB (Lib.itoa q))=some (mkB (Lib.itoa v++ [59] ++t++ [59] ++Lib.itoa q)):=BS _ _ (by simp;omega)
  have c5:lu (mkB (Lib.itoa v++ [59] ++t++ [59] ++Lib.itoa q)) (⟨#[10]⟩)=some (mkB (Lib.itoa v++ [59] ++t++ [59] ++Lib.itoa q++ [10])):=BS _ [10] (by simp;omega)
  have hs:(mkB (Lib.itoa v++ [59] ++t++ [59] ++Lib.itoa q++ [10])).size<=1000:=by rw[bM];simp;omega
  have h0:((⟨#[]⟩:ByteArray)).size<=1000:=by decide
  rw[decide_eq_true hv]
  simp only[if_true,sQ iv,vT iv,sQ iq,vT iq,c1,c2,c3,k1,k2,c4,c5,aa]
  by_cases a:decide ((l.length:Int)>0)=true
  ·by_cases b:(mkB t==(⟨#[]⟩:ByteArray))=true
   ·simp only[if_pos a,if_pos b];exact ⟨_,rfl,rfl,h0⟩
   ·simp only[if_pos a,if_neg b];exact ⟨_,rfl,rfl,hs⟩
  ·by_cases b:(mkB t==(⟨#[]⟩:ByteArray))=true
   ·simp only[if_neg a,if_pos b];exact ⟨_,rfl,rfl,hs⟩
   ·simp only[if_neg a,if_neg b];exact ⟨_,rfl,rfl,hs⟩
 ·rw[decide_eq_false hv]
  exact ⟨_,rfl,rfl,by decide⟩
end D
namespace D
open Go.RowKit
def oT (c:UInt8) (cur:List UInt8):List UInt8->List (List UInt8)
 | [] =>[cur]
 | b::l=>if b=c then cur::oT c [] l else oT c (cur++ [b]) l
theorem nV {c:UInt8} : ∀ {l cur:List UInt8},c∉l->oT c cur l= [cur++l]
 | [],cur,_=>by simp[oT]
 | b::l,cur,h=>by
  have hb:b≠c:=fun e=>h (by simp[e])
  rw[oT,if_neg hb,nV fun k=>h (bh _ k)]
  simp
theorem qm {c:UInt8} : ∀ {a cur r:List UInt8},c∉a->oT c cur (a++c::r)=(cur++a)::oT c [] r
 | [],cur,r,_=>by simp[oT]
 | b::a,cur,r,h=>by
  have hb:b≠c:=fun e=>h (by simp[e])
  rw[List.cons_append,oT,if_neg hb,qm fun k=>h (bh _ k)]
  simp
theorem Ed (c:UInt8): ∀(l cur:List UInt8),(oT c cur l).length<=l.length+1
 | [],cur=>by simp[oT]
 | b::l,cur=>by
  rw[oT]
  split
  ·have:=Ed c l [];simp only[ak];omega
  ·have:=Ed c l (cur++ [b]);simp only[ak];omega
theorem sf (c:UInt8): ∀(l cur:List UInt8),∀x∈oT c cur l,x.length<=cur.length+l.length
 | [],cur,x,h=>by simp[oT] at h;subst h;simp
 | b::l,cur,x,h=>by
  rw[oT] at h
  split at h
  ·rcases aD h with rfl | h
   ·simp
   ·have:=sf c l [] x h;simp at this;simp;omega
  ·have:=sf c l _ x h;simp at this;simp;omega
theorem sU (c:UInt8) (l:List UInt8):c∉l\/ ∃a r,l=a++c::r/\c∉a:=by
 by_cases h:c∈l
 ·obtain ⟨a,r,e,k⟩:=List.eq_append_cons_of_mem h
  exact .inr ⟨a,r,e,k⟩
 ·exact .inl h
theorem Ee (s:ByteArray):mkB s.data.toList=s:=by simp[mkB]
theorem W7 (s:ByteArray): ∃l:List UInt8,s=mkB l:=⟨_,(Ee s).symm⟩
theorem w9 {a b:List UInt8} (h:mkB a=mkB b):a=b:=by rw[<-eV a,h,eV]
theorem slB {l:List UInt8} {a b:Nat} (h1:a<=b) (h2:b<=l.length):qV (mkB l) (a:Int) (b:Int)=some (mkB ((l.take b).drop a)):=by
 unfold qV chk
 rw[bM,if_pos ⟨by omega,by omega,by omega⟩,aa]
 congr 1
 refine ByteArray.ext ?_
 simp[mkB,List.drop_take]
theorem atB {l:List UInt8} {i:Nat} (h:i<l.length):jG (mkB l) (i:Int)=some ((l[i].toNat:Nat):Int):=by
 rw[yO (by rw[bM];exact h)]
 simp[mkB]
theorem vU (l:List UInt8) (c:UInt8) (hl:l.length<=1000000):gY (mkB l) ((c.toNat:Nat):Int)=some ((oT c [] l).map mkB):=by
 obtain ⟨s,e,fr,done,rfl,h1,h2,h3⟩:=nT (f:=oo (mkB l) ((c.toNat:Nat):Int)) (fun i s=> ∃(fr:Nat) (done:List (List UInt8)),s=(done.map mkB,(fr:Int),(i:Int))/\fr<=i/\done.length<=i/\done++oT c ((l.take i).drop fr) (l.drop i)=oT c [] l) l.length (fun i s hi hI=>by
  obtain ⟨fr,done,rfl,h1,h2,h3⟩:=hI
  unfold oo
  simp only[]
  rw[if_pos (decide_eq_true (by rw[bM];omega)),atB hi]
  simp only[aa]
  rw[List.drop_eq_getElem_cons hi,oT] at h3
  by_cases k:l[i] =c
  ·rw[if_pos k] at h3
   rw[if_pos (by rw[k];simp),slB h1 (by omega)]
   simp only[aa]
   have hx:cJ 16 (done.map mkB) [mkB ((l.take i).drop fr)] =some (done.map mkB++ [mkB ((l.take i).drop fr)]):=aL (by rw[List.length_map];simp only[ak,aH];omega)
   rw[hx]
   simp only[aa]
   refine ⟨_,rfl,i+1,done++ [(l.take i).drop fr],?_,aA _,by simp;omega,?_⟩
   ·rw[aO,List.map_cons,List.map_nil,af (by omega)]
   ·rw[<-h3,ai,List.drop_of_length_le (l:=l.take (i+1)) (by rw[aE];omega)];rfl
  ·rw[if_neg k] at h3
   rw[if_neg (fun e=>k (UInt8.toNat_inj.1 (by have:=eq_of_beq e;omega)))]
   simp only[aa]
   refine ⟨_,rfl,fr,done,?_,by omega,by omega,?_⟩
   ·rw[af (by omega)]
   ·rw[<-h3,List.take_succ_eq_append_getElem hi,List.drop_append_of_le_length (by rw[aE];omega)]) (fun s hI=>by
  obtain ⟨fr,done,rfl,h1,h2,h3⟩:=hI
  unfold oo
  simp only[]
  rw[if_neg (by rw[bM];simp)]) (s:=(([] :List ByteArray),0,0)) ⟨0,[],rfl,aA _,aA _,by simp⟩ (dB _ (by omega))
 unfold gY
 rw[aw e,bM]
 simp only[]
 rw[slB h1 (aA _)]
 simp only[aa]
 have hx:cJ 16 (done.map mkB) [mkB ((l.take l.length).drop fr)] =some (done.map mkB++ [mkB ((l.take l.length).drop fr)]):=aL (by rw[List.length_map];simp only[ak,aH];omega)
 rw[hx,<-h3,List.drop_length,oT]
 simp
theorem Ef {c:UInt8} : ∀ {l:List UInt8},c∉l->Lib.index l [c] = -1
 | [],_=>rfl
 | b::l,h=>by
  have hb:c≠b:=fun e=>h (by simp[e])
  have k:([c] :List UInt8).isPrefixOf (b::l)=false:=by simp[List.isPrefixOf,hb]
  rw[Lib.index,k,Ef fun k=>h (bh _ k)];rfl
theorem Eg {c:UInt8} : ∀ {a r:List UInt8},c∉a->Lib.index (a++c::r) [c] =(a.length:Int)
 | [],r,_=>by simp[Lib.index,List.isPrefixOf]
 | b::a,r,h=>by
  have hb:c≠b:=fun e=>h (by simp[e])
  have k:([c] :List UInt8).isPrefixOf (b::(a++c::r))=false:=by simp[List.isPrefixOf,hb]
  rw[List.cons_append,Lib.index,k,Eg fun k=>h (bh _ k)]
  rw[if_neg (by decide),if_neg (by rw[beq_iff_eq];omega),ak];omega
theorem Gz (c:UInt8): ∀(n:Nat) (l:List UInt8),l.length<=n->Lib.splitK [c] 0 (Lib.count l [c]) l=oT c [] l
 | n,l,h=>by
  rcases sU c l with k | ⟨a,r,rfl,k⟩
  ·have e:=Ef k
   rw[Lib.count_miss e,nV k];rfl
  ·have e:=Eg (r:=r) k
   have hd:(a++c::r).drop (a.length+1)=r:=by
    rw[<-List.drop_drop,List.drop_left];rfl
   rw[Lib.count_hit (by simp) e,qm k,Nat.add_comm 1,Lib.splitK,e,if_neg (by rw[beq_iff_eq];omega)]
   show List.take (a.length+0) _::Lib.splitK [c] 0 (Lib.count ((a++c::r).drop (a.length+1)) [c]) ((a++c::r).drop (a.length+1))=_
   rw[hd,Nat.add_zero,List.take_left]
   cases n with
   | zero=>simp at h
   | succ n=>rw[Gz c n r (by simp at h;omega)];rfl
theorem Eh (l:List UInt8) (c:UInt8) (hl:l.length<=1000000):cA (mkB l) (mkB [c])=some ((oT c [] l).map mkB):=by
 unfold cA R.JA chk
 rw[bM,bM,if_pos ⟨by omega,by simp⟩,aa]
 congr 1
 have e:=Lib.splitB_data (mkB [c]) 0 (Lib.countB (mkB l) (mkB [c])) (mkB l)
 rw[eV,eV] at e
 have e2:Lib.countB (mkB l) (mkB [c])=Lib.count l [c]:=by unfold Lib.countB;rw[eV,eV]
 rw[e2,Gz c l.length l (aA _)] at e
 rw[e2,<-e,List.map_map]
 conv=>lhs;rw[<-List.map_id (Lib.splitB _ _ _ _)]
 exact List.map_congr_left fun x _=>(Ee x).symm
theorem RF {l:List UInt8} {c:UInt8} (hl:l.length<=1000000) (h:c∉l):cO (mkB l) (mkB [c])=some (mkB l,mkB [],false):=by
 unfold cO R.WW chk
 rw[bM,if_pos (by omega),aa,eV,eV]
 have:Lib.cut l [c] =(l,[],false):=by unfold Lib.cut;rw[Ef h,if_neg (by decide)]
 rw[this];rfl
theorem S6 {a r:List UInt8} {c:UInt8} (hl:(a++c::r).length<=1000000) (h:c∉a):cO (mkB (a++c::r)) (mkB [c])=some (mkB a,mkB r,true):=by
 unfold cO R.WW chk
 rw[bM,if_pos (by omega),aa,eV,eV]
 have:Lib.cut (a++c::r) [c] =(a,r,true):=by
  unfold Lib.cut
  rw[Eg h,if_pos (by omega)]
  have hd:(a++c::r).drop (a.length+1)=r:=by
   rw[<-List.drop_drop,List.drop_left];rfl
  show (List.take a.length _,List.drop (a.length+1) _,true)=_
  rw[List.take_left,hd]
 rw[this];rfl
theorem JL {c:UInt8} : ∀ {l:List UInt8},c∉l->Lib.indexByte l c= -1
 | [],_=>rfl
 | b::l,h=>by
  have hb:b≠c:=fun e=>h (by simp[e])
  rw[Lib.indexByte,if_neg (by simpa using hb),JL fun k=>h (bh _ k)];rfl
theorem S7 {c:UInt8} : ∀ {a r:List UInt8},c∉a->Lib.indexByte (a++c::r) c=(a.length:Int)
 | [],r,_=>by simp[Lib.indexByte]
 | b::a,r,h=>by
  have hb:b≠c:=fun e=>h (by simp[e])
  rw[List.cons_append,Lib.indexByte,if_neg (by simpa using hb),S7 fun k=>h (bh _ k),if_neg (by rw[beq_iff_eq];omega),ak];omega
end D
end Go.Proofs.YtilionjghdjbdaaGreatDoor
