/- FnExactEngineApply: for every input the law returns true and changes nothing that was there. Part 7 of 9. -/
import Derived.Test.YtilionjghdjbdaaGreatDoorEC5
set_option linter.unusedVariables false
set_option linter.unusedSimpArgs false
set_option linter.unnecessarySimpa false
set_option linter.unusedSectionVars false
set_option maxRecDepth 1000000
namespace Go.Proofs.YtilionjghdjbdaaGreatDoor
namespace R
open Go.RowKit
open D
abbrev y3:Ty:=.int .i64
abbrev y6:Ty:=.prod y3 (.prod y3 (.prod y3 y3))
abbrev t274:Ty:=.tree 302 274 y6
abbrev vH:Ty:=.prod y3 (.prod y3 (.prod y3 y3))
abbrev Rk:Ty:=.sl 168 vH
abbrev y91:Ty:=.sl 3 y3
abbrev ug:Ty:=.prod y91 Rk
abbrev aas:Ty:=.prod y3 (.prod y3 y3)
abbrev y59:Ty:=.sl 161 y6
abbrev y61:Ty:=.wr y59
abbrev CS:Ty:=.prod y3 (.prod y61 y3)
abbrev aat:Ty:=.prod y3 (.prod y3 (.prod y3 y3))
abbrev y4:Ty:=.bool
abbrev Xl:Ty:=.prod y4 vH
abbrev ZR:Ty:=.prod y3 (.prod y3 (.prod y3 y3))
abbrev aau:Ty:=.prod y4 ZR
abbrev ZS:Ty:=.sl 172 ZR
abbrev ZT:Ty:=.prod y91 ZS
abbrev HQ:Ty:=.sl 4 y4
abbrev MO:Ty:=.sl 91 y91
abbrev ZU:Ty:=.prod y3 (.prod HQ MO)
abbrev y54:Ty:=.sl 163 aat
abbrev y56:Ty:=.wr y54
abbrev ZV:Ty:=.prod y3 (.prod y56 y3)
abbrev mS:Ty:=.prod y3 (.prod HQ MO)
abbrev y9:Ty:=.str
abbrev aav:Ty:=.sl 9 y9
abbrev y22:Ty:=.sl 179 ZT
abbrev y5:Ty:=.int .u8
abbrev abr:Ty:=.sl 5 y5
abbrev Lz:Ty:=.prod y91 (.prod y3 (.prod y3 (.prod y91 y4)))
abbrev y24:Ty:=.prod y3 y22
abbrev y25:Ty:=.sl 184 ZU
abbrev y26:Ty:=.sl 187 ZV
abbrev abc:Ty:=.prod y4 (.prod y3 y3)
abbrev abd:Ty:=.prod y3 (.prod y3 y4)
abbrev aaw:Ty:=.fro t274
abbrev y28:Ty:=.prod y25 y26
abbrev y29:Ty:=.sl 133 aas
abbrev YV:Ty:=.int .u64
abbrev ZW:Ty:=.sl 274 aaw
abbrev abt:Ty:=.prod y6 ZW
abbrev y31:Ty:=.prod y24 (.prod y28 (.prod y29 y9))
abbrev YW:Ty:=.int .u64
abbrev y34:Ty:=.sl 126 ug
abbrev YX:Ty:=.int .u32
abbrev y36:Ty:=.prod y3 y34
abbrev y37:Ty:=.sl 189 mS
abbrev y38:Ty:=.sl 137 CS
abbrev y40:Ty:=.prod y37 y38
abbrev y88:Ty:=.prod y3 (.prod y3 y3)
abbrev y41:Ty:=.sl 88 y88
abbrev y43:Ty:=.prod y36 (.prod y40 (.prod y41 y9))
abbrev y66:Ty:=.sl 174 aau
abbrev y68:Ty:=.wr y66
abbrev y71:Ty:=.sl 170 Xl
abbrev y73:Ty:=.wr y71
abbrev y92:Ty:=.sl 73 y73
theorem ti3:TI Tryz.prog 3 false 1:=⟨⟨_,Tryz.underlying3,rfl⟩,by kernel_rfl⟩
theorem YY (a0:Int) (a1:Int) (a2:Int) (a3:Int) (b0:Int) (b1:Int) (b2:Int) (b3:Int) (w:World):EqT Tryz.prog 161 (.agg #[.int .i64 a0,.int .i64 a1,.int .i64 a2,.int .i64 a3]) (.agg #[.int .i64 b0,.int .i64 b1,.int .i64 b2,.int .i64 b3]) ((a0==b0)&&((a1==b1)&&((a2==b2)&&((a3==b3)&&true)))) w:=Ul w Tryz.underlying161 (by kernel_rfl) (by kernel_rfl) (oZ rfl (nr ti3 rfl) (nr ti3 rfl) (run_equalIn_int w 9998 3 _ _ _ _ Tryz.underlying3) (oZ rfl (nr ti3 rfl) (nr ti3 rfl) (run_equalIn_int w 9998 3 _ _ _ _ Tryz.underlying3) (oZ rfl (nr ti3 rfl) (nr ti3 rfl) (run_equalIn_int w 9998 3 _ _ _ _ Tryz.underlying3) (oZ rfl (nr ti3 rfl) (nr ti3 rfl) (run_equalIn_int w 9998 3 _ _ _ _ Tryz.underlying3) (NR w)))))
theorem YZ (a0:Int) (a1:Int) (a2:Int) (a3:Int) (b0:Int) (b1:Int) (b2:Int) (b3:Int) (w:World):EqT Tryz.prog 168 (.agg #[.int .i64 a0,.int .i64 a1,.int .i64 a2,.int .i64 a3]) (.agg #[.int .i64 b0,.int .i64 b1,.int .i64 b2,.int .i64 b3]) ((a0==b0)&&((a1==b1)&&((a2==b2)&&((a3==b3)&&true)))) w:=Ul w Tryz.underlying168 (by kernel_rfl) (by kernel_rfl) (oZ rfl (nr ti3 rfl) (nr ti3 rfl) (run_equalIn_int w 9998 3 _ _ _ _ Tryz.underlying3) (oZ rfl (nr ti3 rfl) (nr ti3 rfl) (run_equalIn_int w 9998 3 _ _ _ _ Tryz.underlying3) (oZ rfl (nr ti3 rfl) (nr ti3 rfl) (run_equalIn_int w 9998 3 _ _ _ _ Tryz.underlying3) (oZ rfl (nr ti3 rfl) (nr ti3 rfl) (run_equalIn_int w 9998 3 _ _ _ _ Tryz.underlying3) (NR w)))))
theorem mz3 (w:World):(zeroValue 3).run Tryz.prog w= .ok (.int .i64 0) w:=by kernel_rfl
theorem kk3:KeyOk Tryz.prog 3 (fun n:Int=>Value.int .i64 n) VZ iOk:=Yd Tryz.underlying3
theorem ek3:EltOk Tryz.prog 3 (fun n:Int=>Value.int .i64 n) VZ iOk 0:=Ye Tryz.underlying3 mz3
def tt:TT:=[(3,⟨false,1,none,y3,[],some 8,none,false,none,none,some (some .i64),false,none⟩),
 (4,⟨false,1,none,y4,[],some 1,none,true,none,none,none,false,none⟩),
 (5,⟨false,1,none,y5,[],some 1,none,false,none,none,some (some .u8),false,none⟩),
 (9,⟨false,1,none,y9,[],some 16,none,false,none,none,some none,false,none⟩),
 (22,⟨false,1,some 179,y22,[],some 24,none,false,none,none,none,false,none⟩),
 (24,⟨true,2,none,y24,[(0,0),(1,0)],some 32,some [(0,1),(1,1)],false,none,none,none,false,none⟩),
 (25,⟨false,1,some 184,y25,[],some 24,none,false,none,none,none,false,none⟩),
 (26,⟨false,1,some 187,y26,[],some 24,none,false,none,none,none,false,none⟩),
 (28,⟨true,2,none,y28,[(0,0),(1,0)],some 48,some [(0,1),(1,1)],false,none,none,none,false,none⟩),
 (29,⟨false,1,some 133,y29,[],some 24,none,false,none,none,none,false,none⟩),
 (31,⟨true,6,none,y31,[(0,1),(2,1),(4,0),(5,0)],some 120,some [(0,2),(2,2),(4,1),(5,1)],false,none,none,none,false,none⟩),
 (34,⟨false,1,some 126,y34,[],some 24,none,false,none,none,none,false,none⟩),
 (36,⟨true,2,none,y36,[(0,0),(1,0)],some 32,some [(0,1),(1,1)],false,none,none,none,false,none⟩),
 (37,⟨false,1,some 189,y37,[],some 24,none,false,none,none,none,false,none⟩),
 (38,⟨false,1,some 137,y38,[],some 24,none,false,none,none,none,false,none⟩),
 (40,⟨true,2,none,y40,[(0,0),(1,0)],some 48,some [(0,1),(1,1)],false,none,none,none,false,none⟩),
 (41,⟨false,1,some 88,y41,[],some 24,none,false,none,none,none,false,none⟩),
 (43,⟨true,6,none,y43,[(0,1),(2,1),(4,0),(5,0)],some 120,some [(0,2),(2,2),(4,1),(5,1)],false,none,none,none,false,none⟩),
 (54,⟨false,1,some 163,y54,[],some 24,none,false,none,none,none,false,none⟩),
 (56,⟨true,1,none,y56,[(0,0)],some 24,some [(0,1)],false,none,none,none,false,none⟩),
 (59,⟨false,1,some 161,y59,[],some 24,none,false,none,none,none,false,none⟩),
 (61,⟨true,1,none,y61,[(0,0)],some 24,some [(0,1)],false,none,none,none,false,none⟩),
 (66,⟨false,1,some 174,y66,[],some 24,none,false,none,none,none,false,none⟩),
 (68,⟨true,1,none,y68,[(0,0)],some 24,some [(0,1)],false,none,none,none,false,none⟩),
 (71,⟨false,1,some 170,y71,[],some 24,none,false,none,none,none,false,none⟩),
 (73,⟨true,1,none,y73,[(0,0)],some 24,some [(0,1)],false,none,none,none,false,none⟩),
 (88,⟨true,3,none,y88,[(0,0),(1,0),(2,0)],some 24,some [(0,1),(1,1),(2,1)],false,none,none,none,false,none⟩),
 (91,⟨false,1,some 3,y91,[],some 24,none,false,none,none,none,false,none⟩),
 (92,⟨false,1,some 73,y92,[],some 24,none,false,none,none,none,false,none⟩),
 (108,⟨false,1,none,.bool,[],none,none,false,none,none,none,true,none⟩),
 (124,⟨false,1,some 168,Rk,[],some 24,none,false,none,none,none,false,none⟩),
 (126,⟨true,2,none,ug,[(0,0),(1,0)],some 48,some [(0,1),(1,1)],false,none,none,none,false,none⟩),
 (133,⟨true,3,none,aas,[(0,0),(1,0),(2,0)],some 24,some [(0,1),(1,1),(2,1)],false,none,none,none,false,none⟩),
 (134,⟨false,1,none,.bool,[],none,none,false,none,none,none,true,none⟩),
 (137,⟨true,3,none,CS,[(0,0),(1,0),(2,0)],some 40,some [(0,1),(1,1),(2,1)],false,none,none,none,false,none⟩),
 (138,⟨false,1,none,.bool,[],none,none,false,none,none,none,true,none⟩),
 (161,⟨true,4,none,y6,[(0,0),(1,0),(2,0),(3,0)],some 32,some [(0,1),(1,1),(2,1),(3,1)],false,some [some .i64,some .i64,some .i64,some .i64],none,none,false,none⟩),
 (163,⟨true,4,none,aat,[(0,0),(1,0),(2,0),(3,0)],some 32,some [(0,1),(1,1),(2,1),(3,1)],false,none,none,none,false,none⟩),
 (168,⟨true,4,none,vH,[(0,0),(1,0),(2,0),(3,0)],some 32,some [(0,1),(1,1),(2,1),(3,1)],false,some [some .i64,some .i64,some .i64,some .i64],none,none,false,none⟩),
 (170,⟨true,5,none,Xl,[(0,0),(1,3)],some 40,some [(0,1),(1,4)],false,none,none,none,false,none⟩),
 (172,⟨true,4,none,ZR,[(0,0),(1,0),(2,0),(3,0)],some 32,some [(0,1),(1,1),(2,1),(3,1)],false,none,none,none,false,none⟩),
 (174,⟨true,5,none,aau,[(0,0),(1,3)],some 40,some [(0,1),(1,4)],false,none,none,none,false,none⟩),
 (177,⟨false,1,some 172,ZS,[],some 24,none,false,none,none,none,false,none⟩),
 (179,⟨true,2,none,ZT,[(0,0),(1,0)],some 48,some [(0,1),(1,1)],false,none,none,none,false,none⟩),
 (181,⟨false,1,some 4,HQ,[],some 24,none,false,none,none,none,false,none⟩),
 (182,⟨false,1,some 91,MO,[],some 24,none,false,none,none,none,false,none⟩),
 (184,⟨true,3,none,ZU,[(0,0),(1,0),(2,0)],some 56,some [(0,1),(1,1),(2,1)],false,none,none,none,false,none⟩),
 (187,⟨true,3,none,ZV,[(0,0),(1,0),(2,0)],some 40,some [(0,1),(1,1),(2,1)],false,none,none,none,false,none⟩),
 (189,⟨true,3,none,mS,[(0,0),(1,0),(2,0)],some 56,some [(0,1),(1,1),(2,1)],false,none,none,none,false,none⟩),
 (194,⟨false,1,none,.bool,[],none,none,false,none,none,none,true,none⟩),
 (200,⟨false,1,none,.bool,[],none,none,false,none,none,none,true,none⟩),
 (204,⟨false,1,none,.bool,[],none,none,false,none,none,none,true,none⟩),
 (205,⟨false,1,some 9,aav,[],some 24,none,false,none,none,none,false,none⟩),
 (222,⟨false,1,some 5,abr,[],some 24,none,false,none,none,none,false,none⟩),
 (230,⟨true,5,none,Lz,[(0,0),(1,0),(2,0),(3,0),(4,0)],some 72,some [(0,1),(1,1),(2,1),(3,1),(4,1)],false,none,none,none,false,none⟩),
 (263,⟨true,3,none,abc,[(0,0),(1,0),(2,0)],some 24,some [(0,1),(1,1),(2,1)],false,none,none,none,false,none⟩),
 (272,⟨true,3,none,abd,[(0,0),(1,0),(2,0)],some 24,some [(0,1),(1,1),(2,1)],false,none,none,none,false,none⟩),
 (274,⟨false,1,none,aaw,[],some 8,none,false,none,none,none,false,some 302⟩),
 (277,⟨false,1,none,.bool,[],none,none,false,none,none,none,true,none⟩),
 (279,⟨false,1,none,.bool,[],none,none,false,none,none,none,true,none⟩),
 (290,⟨false,1,none,.bool,[],none,none,false,none,none,none,true,none⟩),
 (295,⟨false,1,none,YV,[],some 8,none,false,none,none,some (some .u64),false,none⟩),
 (300,⟨false,1,some 274,ZW,[],some 24,none,false,none,none,none,false,none⟩),
 (302,⟨true,5,none,abt,[(0,3),(4,0)],some 56,some [(0,4),(4,1)],false,none,none,none,false,none⟩),
 (306,⟨false,1,none,.bool,[],none,none,false,none,some ⟨3,3,.int,.int⟩,none,false,none⟩),
 (308,⟨false,1,none,.bool,[],none,none,false,none,none,none,true,none⟩),
 (321,⟨false,1,none,YW,[],some 8,none,false,none,none,some (some .u64),false,none⟩),
 (344,⟨false,1,none,YX,[],some 4,none,false,none,none,some (some .u32),false,none⟩),
 (351,⟨false,1,none,.bool,[],none,none,false,none,none,none,true,none⟩)]
theorem MP:TTok Tryz.prog tt:=⟨vv (n:=1) (z:=.int .i64 0) ⟨⟨_,Tryz.underlying3,rfl⟩,by kernel_rfl⟩ rfl (by unfold TZ;kernel_rfl) rfl (bg rfl) (fun h=>by cases h) (fun k h=>by obtain rfl:=ae h;exact Tryz.underlying3),
 vv (n:=1) (z:=.bool false) ⟨⟨_,Tryz.underlying4,rfl⟩,by kernel_rfl⟩ rfl (by unfold TZ;kernel_rfl) rfl (bg rfl) (fun h=>Tryz.underlying4) (fun k h=>by cases h),
 vv (n:=1) (z:=.int .u8 0) ⟨⟨_,Tryz.underlying5,rfl⟩,by kernel_rfl⟩ rfl (by unfold TZ;kernel_rfl) rfl (bg rfl) (fun h=>by cases h) (fun k h=>by obtain rfl:=ae h;exact Tryz.underlying5),
 vv (n:=1) (z:=.string ⟨#[]⟩) ⟨⟨_,Tryz.underlying9,rfl⟩,by kernel_rfl⟩ rfl (by unfold TZ;kernel_rfl) rfl (bg rfl) (fun h=>by cases h) (fun k h=>by obtain rfl:=ae h;exact Tryz.underlying9),
 pH ⟨⟨_,Tryz.underlying22,rfl⟩,by kernel_rfl⟩ Tryz.underlying22 (by unfold TZ;kernel_rfl),
 lD (z:=.agg #[.int .i64 0,.slice none 0 0]) ⟨⟨_,Tryz.underlying24,rfl⟩,by kernel_rfl⟩ rfl ⟨⟨_,_,Tryz.underlying24,rfl,rfl,by kernel_rfl⟩,⟨_,_,Tryz.underlying24,rfl,rfl,by kernel_rfl⟩,trivial⟩ (by unfold TZ;kernel_rfl) rfl (bg rfl) ⟨_,Tryz.underlying24,by kernel_rfl⟩ (fun ks h=>by cases h),
 pH ⟨⟨_,Tryz.underlying25,rfl⟩,by kernel_rfl⟩ Tryz.underlying25 (by unfold TZ;kernel_rfl),
 pH ⟨⟨_,Tryz.underlying26,rfl⟩,by kernel_rfl⟩ Tryz.underlying26 (by unfold TZ;kernel_rfl),
 lD (z:=.agg #[.slice none 0 0,.slice none 0 0]) ⟨⟨_,Tryz.underlying28,rfl⟩,by kernel_rfl⟩ rfl ⟨⟨_,_,Tryz.underlying28,rfl,rfl,by kernel_rfl⟩,⟨_,_,Tryz.underlying28,rfl,rfl,by kernel_rfl⟩,trivial⟩ (by unfold TZ;kernel_rfl) rfl (bg rfl) ⟨_,Tryz.underlying28,by kernel_rfl⟩ (fun ks h=>by cases h),
 pH ⟨⟨_,Tryz.underlying29,rfl⟩,by kernel_rfl⟩ Tryz.underlying29 (by unfold TZ;kernel_rfl),
 lD (z:=.agg #[.int .i64 0,.slice none 0 0,.slice none 0 0,.slice none 0 0,.slice none 0 0,.string ⟨#[]⟩]) ⟨⟨_,Tryz.underlying31,rfl⟩,by kernel_rfl⟩ rfl ⟨⟨_,_,Tryz.underlying31,rfl,rfl,by kernel_rfl⟩,⟨_,_,Tryz.underlying31,rfl,rfl,by kernel_rfl⟩,⟨_,_,Tryz.underlying31,rfl,rfl,by kernel_rfl⟩,⟨_,_,Tryz.underlying31,rfl,rfl,by kernel_rfl⟩,trivial⟩ (by unfold TZ;kernel_rfl) rfl (bg rfl) ⟨_,Tryz.underlying31,by kernel_rfl⟩ (fun ks h=>by cases h),
 pH ⟨⟨_,Tryz.underlying34,rfl⟩,by kernel_rfl⟩ Tryz.underlying34 (by unfold TZ;kernel_rfl),
 lD (z:=.agg #[.int .i64 0,.slice none 0 0]) ⟨⟨_,Tryz.underlying36,rfl⟩,by kernel_rfl⟩ rfl ⟨⟨_,_,Tryz.underlying36,rfl,rfl,by kernel_rfl⟩,⟨_,_,Tryz.underlying36,rfl,rfl,by kernel_rfl⟩,trivial⟩ (by unfold TZ;kernel_rfl) rfl (bg rfl) ⟨_,Tryz.underlying36,by kernel_rfl⟩ (fun ks h=>by cases h),
 pH ⟨⟨_,Tryz.underlying37,rfl⟩,by kernel_rfl⟩ Tryz.underlying37 (by unfold TZ;kernel_rfl),
 pH ⟨⟨_,Tryz.underlying38,rfl⟩,by kernel_rfl⟩ Tryz.underlying38 (by unfold TZ;kernel_rfl),
 lD (z:=.agg #[.slice none 0 0,.slice none 0 0]) ⟨⟨_,Tryz.underlying40,rfl⟩,by kernel_rfl⟩ rfl ⟨⟨_,_,Tryz.underlying40,rfl,rfl,by kernel_rfl⟩,⟨_,_,Tryz.underlying40,rfl,rfl,by kernel_rfl⟩,trivial⟩ (by unfold TZ;kernel_rfl) rfl (bg rfl) ⟨_,Tryz.underlying40,by kernel_rfl⟩ (fun ks h=>by cases h),
 pH ⟨⟨_,Tryz.underlying41,rfl⟩,by kernel_rfl⟩ Tryz.underlying41 (by unfold TZ;kernel_rfl),
 lD (z:=.agg #[.int .i64 0,.slice none 0 0,.slice none 0 0,.slice none 0 0,.slice none 0 0,.string ⟨#[]⟩]) ⟨⟨_,Tryz.underlying43,rfl⟩,by kernel_rfl⟩ rfl ⟨⟨_,_,Tryz.underlying43,rfl,rfl,by kernel_rfl⟩,⟨_,_,Tryz.underlying43,rfl,rfl,by kernel_rfl⟩,⟨_,_,Tryz.underlying43,rfl,rfl,by kernel_rfl⟩,⟨_,_,Tryz.underlying43,rfl,rfl,by kernel_rfl⟩,trivial⟩ (by unfold TZ;kernel_rfl) rfl (bg rfl) ⟨_,Tryz.underlying43,by kernel_rfl⟩ (fun ks h=>by cases h),
 pH ⟨⟨_,Tryz.underlying54,rfl⟩,by kernel_rfl⟩ Tryz.underlying54 (by unfold TZ;kernel_rfl),
 lD (z:=.agg #[.slice none 0 0]) ⟨⟨_,Tryz.underlying56,rfl⟩,by kernel_rfl⟩ rfl ⟨⟨_,_,Tryz.underlying56,rfl,rfl,by kernel_rfl⟩,trivial⟩ (by unfold TZ;kernel_rfl) rfl (bg rfl) ⟨_,Tryz.underlying56,by kernel_rfl⟩ (fun ks h=>by cases h),
 pH ⟨⟨_,Tryz.underlying59,rfl⟩,by kernel_rfl⟩ Tryz.underlying59 (by unfold TZ;kernel_rfl),
 lD (z:=.agg #[.slice none 0 0]) ⟨⟨_,Tryz.underlying61,rfl⟩,by kernel_rfl⟩ rfl ⟨⟨_,_,Tryz.underlying61,rfl,rfl,by kernel_rfl⟩,trivial⟩ (by unfold TZ;kernel_rfl) rfl (bg rfl) ⟨_,Tryz.underlying61,by kernel_rfl⟩ (fun ks h=>by cases h),
 pH ⟨⟨_,Tryz.underlying66,rfl⟩,by kernel_rfl⟩ Tryz.underlying66 (by unfold TZ;kernel_rfl),
 lD (z:=.agg #[.slice none 0 0]) ⟨⟨_,Tryz.underlying68,rfl⟩,by kernel_rfl⟩ rfl ⟨⟨_,_,Tryz.underlying68,rfl,rfl,by kernel_rfl⟩,trivial⟩ (by unfold TZ;kernel_rfl) rfl (bg rfl) ⟨_,Tryz.underlying68,by kernel_rfl⟩ (fun ks h=>by cases h),
 pH ⟨⟨_,Tryz.underlying71,rfl⟩,by kernel_rfl⟩ Tryz.underlying71 (by unfold TZ;kernel_rfl),
 lD (z:=.agg #[.slice none 0 0]) ⟨⟨_,Tryz.underlying73,rfl⟩,by kernel_rfl⟩ rfl ⟨⟨_,_,Tryz.underlying73,rfl,rfl,by kernel_rfl⟩,trivial⟩ (by unfold TZ;kernel_rfl) rfl (bg rfl) ⟨_,Tryz.underlying73,by kernel_rfl⟩ (fun ks h=>by cases h),
 lD (z:=.agg #[.int .i64 0,.int .i64 0,.int .i64 0]) ⟨⟨_,Tryz.underlying88,rfl⟩,by kernel_rfl⟩ rfl ⟨⟨_,_,Tryz.underlying88,rfl,rfl,by kernel_rfl⟩,⟨_,_,Tryz.underlying88,rfl,rfl,by kernel_rfl⟩,⟨_,_,Tryz.underlying88,rfl,rfl,by kernel_rfl⟩,trivial⟩ (by unfold TZ;kernel_rfl) rfl (bg rfl) ⟨_,Tryz.underlying88,by kernel_rfl⟩ (fun ks h=>by cases h),
 pH ⟨⟨_,Tryz.underlying91,rfl⟩,by kernel_rfl⟩ Tryz.underlying91 (by unfold TZ;kernel_rfl),
 pH ⟨⟨_,Tryz.underlying92,rfl⟩,by kernel_rfl⟩ Tryz.underlying92 (by unfold TZ;kernel_rfl),
 Bk (ty:=.bool) (b:=8) ⟨⟨_,Tryz.underlying108,rfl⟩,by kernel_rfl⟩ rfl (by unfold TZ;kernel_rfl),
 pH ⟨⟨_,Tryz.underlying124,rfl⟩,by kernel_rfl⟩ Tryz.underlying124 (by unfold TZ;kernel_rfl),
 lD (z:=.agg #[.slice none 0 0,.slice none 0 0]) ⟨⟨_,Tryz.underlying126,rfl⟩,by kernel_rfl⟩ rfl ⟨⟨_,_,Tryz.underlying126,rfl,rfl,by kernel_rfl⟩,⟨_,_,Tryz.underlying126,rfl,rfl,by kernel_rfl⟩,trivial⟩ (by unfold TZ;kernel_rfl) rfl (bg rfl) ⟨_,Tryz.underlying126,by kernel_rfl⟩ (fun ks h=>by cases h),
 lD (z:=.agg #[.int .i64 0,.int .i64 0,.int .i64 0]) ⟨⟨_,Tryz.underlying133,rfl⟩,by kernel_rfl⟩ rfl ⟨⟨_,_,Tryz.underlying133,rfl,rfl,by kernel_rfl⟩,⟨_,_,Tryz.underlying133,rfl,rfl,by kernel_rfl⟩,⟨_,_,Tryz.underlying133,rfl,rfl,by kernel_rfl⟩,trivial⟩ (by unfold TZ;kernel_rfl) rfl (bg rfl) ⟨_,Tryz.underlying133,by kernel_rfl⟩ (fun ks h=>by cases h),
 Bk (ty:=.bool) (b:=8) ⟨⟨_,Tryz.underlying134,rfl⟩,by kernel_rfl⟩ rfl (by unfold TZ;kernel_rfl),
 lD (z:=.agg #[.int .i64 0,.slice none 0 0,.int .i64 0]) ⟨⟨_,Tryz.underlying137,rfl⟩,by kernel_rfl⟩ rfl ⟨⟨_,_,Tryz.underlying137,rfl,rfl,by kernel_rfl⟩,⟨_,_,Tryz.underlying137,rfl,rfl,by kernel_rfl⟩,⟨_,_,Tryz.underlying137,rfl,rfl,by kernel_rfl⟩,trivial⟩ (by unfold TZ;kernel_rfl) rfl (bg rfl) ⟨_,Tryz.underlying137,by kernel_rfl⟩ (fun ks h=>by cases h),
 Bk (ty:=.bool) (b:=8) ⟨⟨_,Tryz.underlying138,rfl⟩,by kernel_rfl⟩ rfl (by unfold TZ;kernel_rfl),
 lD (z:=.agg #[.int .i64 0,.int .i64 0,.int .i64 0,.int .i64 0]) ⟨⟨_,Tryz.underlying161,rfl⟩,by kernel_rfl⟩ rfl ⟨⟨_,_,Tryz.underlying161,rfl,rfl,by kernel_rfl⟩,⟨_,_,Tryz.underlying161,rfl,rfl,by kernel_rfl⟩,⟨_,_,Tryz.underlying161,rfl,rfl,by kernel_rfl⟩,⟨_,_,Tryz.underlying161,rfl,rfl,by kernel_rfl⟩,trivial⟩ (by unfold TZ;kernel_rfl) rfl (bg rfl) ⟨_,Tryz.underlying161,by kernel_rfl⟩ (fun ks h=>by obtain rfl:=ae h;exact fun w a0 b0 a1 b1 a2 b2 a3 b3=>YY a0 a1 a2 a3 b0 b1 b2 b3 w),
 lD (z:=.agg #[.int .i64 0,.int .i64 0,.int .i64 0,.int .i64 0]) ⟨⟨_,Tryz.underlying163,rfl⟩,by kernel_rfl⟩ rfl ⟨⟨_,_,Tryz.underlying163,rfl,rfl,by kernel_rfl⟩,⟨_,_,Tryz.underlying163,rfl,rfl,by kernel_rfl⟩,⟨_,_,Tryz.underlying163,rfl,rfl,by kernel_rfl⟩,⟨_,_,Tryz.underlying163,rfl,rfl,by kernel_rfl⟩,trivial⟩ (by unfold TZ;kernel_rfl) rfl (bg rfl) ⟨_,Tryz.underlying163,by kernel_rfl⟩ (fun ks h=>by cases h),
 lD (z:=.agg #[.int .i64 0,.int .i64 0,.int .i64 0,.int .i64 0]) ⟨⟨_,Tryz.underlying168,rfl⟩,by kernel_rfl⟩ rfl ⟨⟨_,_,Tryz.underlying168,rfl,rfl,by kernel_rfl⟩,⟨_,_,Tryz.underlying168,rfl,rfl,by kernel_rfl⟩,⟨_,_,Tryz.underlying168,rfl,rfl,by kernel_rfl⟩,⟨_,_,Tryz.underlying168,rfl,rfl,by kernel_rfl⟩,trivial⟩ (by unfold TZ;kernel_rfl) rfl (bg rfl) ⟨_,Tryz.underlying168,by kernel_rfl⟩ (fun ks h=>by obtain rfl:=ae h;exact fun w a0 b0 a1 b1 a2 b2 a3 b3=>YZ a0 a1 a2 a3 b0 b1 b2 b3 w),
 lD (z:=.agg #[.bool false,.int .i64 0,.int .i64 0,.int .i64 0,.int .i64 0]) ⟨⟨_,Tryz.underlying170,rfl⟩,by kernel_rfl⟩ rfl ⟨⟨_,_,Tryz.underlying170,rfl,rfl,by kernel_rfl⟩,⟨_,_,Tryz.underlying170,rfl,rfl,by kernel_rfl⟩,trivial⟩ (by unfold TZ;kernel_rfl) rfl (bg rfl) ⟨_,Tryz.underlying170,by kernel_rfl⟩ (fun ks h=>by cases h),
 lD (z:=.agg #[.int .i64 0,.int .i64 0,.int .i64 0,.int .i64 0]) ⟨⟨_,Tryz.underlying172,rfl⟩,by kernel_rfl⟩ rfl ⟨⟨_,_,Tryz.underlying172,rfl,rfl,by kernel_rfl⟩,⟨_,_,Tryz.underlying172,rfl,rfl,by kernel_rfl⟩,⟨_,_,Tryz.underlying172,rfl,rfl,by kernel_rfl⟩,⟨_,_,Tryz.underlying172,rfl,rfl,by kernel_rfl⟩,trivial⟩ (by unfold TZ;kernel_rfl) rfl (bg rfl) ⟨_,Tryz.underlying172,by kernel_rfl⟩ (fun ks h=>by cases h),
 lD (z:=.agg #[.bool false,.int .i64 0,.int .i64 0,.int .i64 0,.int .i64 0]) ⟨⟨_,Tryz.underlying174,rfl⟩,by kernel_rfl⟩ rfl ⟨⟨_,_,Tryz.underlying174,rfl,rfl,by kernel_rfl⟩,⟨_,_,Tryz.underlying174,rfl,rfl,by kernel_rfl⟩,trivial⟩ (by unfold TZ;kernel_rfl) rfl (bg rfl) ⟨_,Tryz.underlying174,by kernel_rfl⟩ (fun ks h=>by cases h),
 pH ⟨⟨_,Tryz.underlying177,rfl⟩,by kernel_rfl⟩ Tryz.underlying177 (by unfold TZ;kernel_rfl),
 lD (z:=.agg #[.slice none 0 0,.slice none 0 0]) ⟨⟨_,Tryz.underlying179,rfl⟩,by kernel_rfl⟩ rfl ⟨⟨_,_,Tryz.underlying179,rfl,rfl,by kernel_rfl⟩,⟨_,_,Tryz.underlying179,rfl,rfl,by kernel_rfl⟩,trivial⟩ (by unfold TZ;kernel_rfl) rfl (bg rfl) ⟨_,Tryz.underlying179,by kernel_rfl⟩ (fun ks h=>by cases h),
 pH ⟨⟨_,Tryz.underlying181,rfl⟩,by kernel_rfl⟩ Tryz.underlying181 (by unfold TZ;kernel_rfl),
 pH ⟨⟨_,Tryz.underlying182,rfl⟩,by kernel_rfl⟩ Tryz.underlying182 (by unfold TZ;kernel_rfl),
 lD (z:=.agg #[.int .i64 0,.slice none 0 0,.slice none 0 0]) ⟨⟨_,Tryz.underlying184,rfl⟩,by kernel_rfl⟩ rfl ⟨⟨_,_,Tryz.underlying184,rfl,rfl,by kernel_rfl⟩,⟨_,_,Tryz.underlying184,rfl,rfl,by kernel_rfl⟩,⟨_,_,Tryz.underlying184,rfl,rfl,by kernel_rfl⟩,trivial⟩ (by unfold TZ;kernel_rfl) rfl (bg rfl) ⟨_,Tryz.underlying184,by kernel_rfl⟩ (fun ks h=>by cases h),
 lD (z:=.agg #[.int .i64 0,.slice none 0 0,.int .i64 0]) ⟨⟨_,Tryz.underlying187,rfl⟩,by kernel_rfl⟩ rfl ⟨⟨_,_,Tryz.underlying187,rfl,rfl,by kernel_rfl⟩,⟨_,_,Tryz.underlying187,rfl,rfl,by kernel_rfl⟩,⟨_,_,Tryz.underlying187,rfl,rfl,by kernel_rfl⟩,trivial⟩ (by unfold TZ;kernel_rfl) rfl (bg rfl) ⟨_,Tryz.underlying187,by kernel_rfl⟩ (fun ks h=>by cases h),
 lD (z:=.agg #[.int .i64 0,.slice none 0 0,.slice none 0 0]) ⟨⟨_,Tryz.underlying189,rfl⟩,by kernel_rfl⟩ rfl ⟨⟨_,_,Tryz.underlying189,rfl,rfl,by kernel_rfl⟩,⟨_,_,Tryz.underlying189,rfl,rfl,by kernel_rfl⟩,⟨_,_,Tryz.underlying189,rfl,rfl,by kernel_rfl⟩,trivial⟩ (by unfold TZ;kernel_rfl) rfl (bg rfl) ⟨_,Tryz.underlying189,by kernel_rfl⟩ (fun ks h=>by cases h),
 Bk (ty:=.bool) (b:=8) ⟨⟨_,Tryz.underlying194,rfl⟩,by kernel_rfl⟩ rfl (by unfold TZ;kernel_rfl),
 Bk (ty:=.bool) (b:=8) ⟨⟨_,Tryz.underlying200,rfl⟩,by kernel_rfl⟩ rfl (by unfold TZ;kernel_rfl),
 Bk (ty:=.bool) (b:=8) ⟨⟨_,Tryz.underlying204,rfl⟩,by kernel_rfl⟩ rfl (by unfold TZ;kernel_rfl),
 pH ⟨⟨_,Tryz.underlying205,rfl⟩,by kernel_rfl⟩ Tryz.underlying205 (by unfold TZ;kernel_rfl),
 pH ⟨⟨_,Tryz.underlying222,rfl⟩,by kernel_rfl⟩ Tryz.underlying222 (by unfold TZ;kernel_rfl),
 lD (z:=.agg #[.slice none 0 0,.int .i64 0,.int .i64 0,.slice none 0 0,.bool false]) ⟨⟨_,Tryz.underlying230,rfl⟩,by kernel_rfl⟩ rfl ⟨⟨_,_,Tryz.underlying230,rfl,rfl,by kernel_rfl⟩,⟨_,_,Tryz.underlying230,rfl,rfl,by kernel_rfl⟩,⟨_,_,Tryz.underlying230,rfl,rfl,by kernel_rfl⟩,⟨_,_,Tryz.underlying230,rfl,rfl,by kernel_rfl⟩,⟨_,_,Tryz.underlying230,rfl,rfl,by kernel_rfl⟩,trivial⟩ (by unfold TZ;kernel_rfl) rfl (bg rfl) ⟨_,Tryz.underlying230,by kernel_rfl⟩ (fun ks h=>by cases h),
 lD (z:=.agg #[.bool false,.int .i64 0,.int .i64 0]) ⟨⟨_,Tryz.underlying263,rfl⟩,by kernel_rfl⟩ rfl ⟨⟨_,_,Tryz.underlying263,rfl,rfl,by kernel_rfl⟩,⟨_,_,Tryz.underlying263,rfl,rfl,by kernel_rfl⟩,⟨_,_,Tryz.underlying263,rfl,rfl,by kernel_rfl⟩,trivial⟩ (by unfold TZ;kernel_rfl) rfl (bg rfl) ⟨_,Tryz.underlying263,by kernel_rfl⟩ (fun ks h=>by cases h),
 lD (z:=.agg #[.int .i64 0,.int .i64 0,.bool false]) ⟨⟨_,Tryz.underlying272,rfl⟩,by kernel_rfl⟩ rfl ⟨⟨_,_,Tryz.underlying272,rfl,rfl,by kernel_rfl⟩,⟨_,_,Tryz.underlying272,rfl,rfl,by kernel_rfl⟩,⟨_,_,Tryz.underlying272,rfl,rfl,by kernel_rfl⟩,trivial⟩ (by unfold TZ;kernel_rfl) rfl (bg rfl) ⟨_,Tryz.underlying272,by kernel_rfl⟩ (fun ks h=>by cases h),
 aar (e:=302) (E:=274) (u:=y6) ⟨⟨_,Tryz.underlying274,rfl⟩,by kernel_rfl⟩ Tryz.underlying274 (by unfold TZ;kernel_rfl),
 Bk (ty:=.bool) (b:=8) ⟨⟨_,Tryz.underlying277,rfl⟩,by kernel_rfl⟩ rfl (by unfold TZ;kernel_rfl),
 Bk (ty:=.bool) (b:=8) ⟨⟨_,Tryz.underlying279,rfl⟩,by kernel_rfl⟩ rfl (by unfold TZ;kernel_rfl),
 Bk (ty:=.bool) (b:=8) ⟨⟨_,Tryz.underlying290,rfl⟩,by kernel_rfl⟩ rfl (by unfold TZ;kernel_rfl),
 vv (n:=1) (z:=.int .u64 0) ⟨⟨_,Tryz.underlying295,rfl⟩,by kernel_rfl⟩ rfl (by unfold TZ;kernel_rfl) rfl (bg rfl) (fun h=>by cases h) (fun k h=>by obtain rfl:=ae h;exact Tryz.underlying295),
 pH ⟨⟨_,Tryz.underlying300,rfl⟩,by kernel_rfl⟩ Tryz.underlying300 (by unfold TZ;kernel_rfl),
 lD (z:=.agg #[.int .i64 0,.int .i64 0,.int .i64 0,.int .i64 0,.slice none 0 0]) ⟨⟨_,Tryz.underlying302,rfl⟩,by kernel_rfl⟩ rfl ⟨⟨_,_,Tryz.underlying302,rfl,rfl,by kernel_rfl⟩,⟨_,_,Tryz.underlying302,rfl,rfl,by kernel_rfl⟩,trivial⟩ (by unfold TZ;kernel_rfl) rfl (bg rfl) ⟨_,Tryz.underlying302,by kernel_rfl⟩ (fun ks h=>by cases h),
 aaq (m:=⟨3,3,.int,.int⟩) (ty:=.bool) ⟨⟨_,Tryz.underlying306,rfl⟩,by kernel_rfl⟩ rfl ⟨Tryz.underlying306,kk3,ek3⟩,
 Bk (ty:=.bool) (b:=8) ⟨⟨_,Tryz.underlying308,rfl⟩,by kernel_rfl⟩ rfl (by unfold TZ;kernel_rfl),
 vv (n:=1) (z:=.int .u64 0) ⟨⟨_,Tryz.underlying321,rfl⟩,by kernel_rfl⟩ rfl (by unfold TZ;kernel_rfl) rfl (bg rfl) (fun h=>by cases h) (fun k h=>by obtain rfl:=ae h;exact Tryz.underlying321),
 vv (n:=1) (z:=.int .u32 0) ⟨⟨_,Tryz.underlying344,rfl⟩,by kernel_rfl⟩ rfl (by unfold TZ;kernel_rfl) rfl (bg rfl) (fun h=>by cases h) (fun k h=>by obtain rfl:=ae h;exact Tryz.underlying344),
 Bk (ty:=.bool) (b:=8) ⟨⟨_,Tryz.underlying351,rfl⟩,by kernel_rfl⟩ rfl (by unfold TZ;kernel_rfl),trivial⟩
theorem mixed:Tryz.prog.follows .mixedOrders=true:=by kernel_rfl
def UZ (fn:Func):Code:=match fn.body with
 | some c=>c
 | none=>.skip
theorem fk {k:FuncId} {fn:Func} {f:FS} (ft:FT) (hF:FTok Tryz.prog ft) (hf:Tryz.prog.funcs[k]? =some fn) (ann:Ann) (an:List (Nat×Ty):=[]) (tr:Trs:=[]) (hb:fn.body=some (UZ fn):=by rfl) (he:(fn.name == "runtime.NumGoroutine")=false:=by kernel_rfl) (hcl:f.cl=none:=by rfl) (hm:Nat.ble f.ps.length fn.ntmps=true:=by rfl) (hdp:(G7 f.rs&&AU f.ps)=true:=by rfl)
  (hmod: ∀d,appP f.ps f.m d=kJ ⟨tt,ft,an,fn.ntmps,tr⟩ (PK ⟨tt,ft,an,fn.ntmps,tr⟩ fn.results.toList f.rs f.ps d) (UZ fn) ann (fun r=>some r) (fun _ _=>none) (PK ⟨tt,ft,an,fn.ntmps,tr⟩ fn.results.toList f.rs f.ps d) (rX (Bg f.ps d)):=by intro d;kernel_rfl):FOk Tryz.prog k f:=
 fok (V:=⟨tt,ft,an,fn.ntmps,tr⟩) MP hF mixed hf hb rfl (enters_of hf he hb) hcl (bg hm) hdp ann hmod
def yc:FS:=⟨[.rd y91,.rd y3],[y3],tY,none⟩
def Bm:FS:=⟨[.rd ZS,.rd y3],[y3],vx,none⟩
def Bn:FS:=⟨[.rd ZT,.rd y3],[y3],qP,none⟩
def y7:FS:=⟨[.rd y22,.rd y3],[y3],sG,none⟩
def wO:FS:=⟨[.rd y24,.rd y3],[y3],nz,none⟩
def Bo:FS:=⟨[.rd HQ,.rd y3],[y3],vy,none⟩
def Bp:FS:=⟨[.rd MO,.rd y3],[y3],vz,none⟩
def sK:FS:=⟨[.rd ZU,.rd y3],[y3],kM,none⟩
def rB:FS:=⟨[.rd y25,.rd y3],[y3],mZ,none⟩
def y8:FS:=⟨[.rd y54,.rd y3],[y3],sH,none⟩
def D4:FS:=⟨[.rd y56,.rd y3],[y3],tZ,none⟩
def rC:FS:=⟨[.rd ZV,.rd y3],[y3],jB,none⟩
def qd:FS:=⟨[.rd y26,.rd y3],[y3],lJ,none⟩
def uD:FS:=⟨[.rd y28,.rd y3],[y3],l6,none⟩
def qe:FS:=⟨[.rd y29,.rd y3],[y3],lK,none⟩
def za:FS:=⟨[.rd y31,.rd y3],[y3],pb,none⟩
def mH:FS:=⟨[.rd y3,.rd y3,.rd y3],[y4],cR,none⟩
def yd:FS:=⟨[.rd ug,.rd vH],[y4],pX,none⟩
def gG:FS:=⟨[.rd ug],[y4],cX,none⟩
def wP:FS:=⟨[.rd y91,.rd y91],[y3],om,none⟩
def gW:FS:=⟨[.rd y36],[y4],m_s_IsValidHistory,none⟩
def sL:FS:=⟨[.rd y3],[y4],mL,none⟩
def vI:FS:=⟨[.rd y6],[y3],oo,none⟩
def D5:FS:=⟨[.rd y61],[y4],ua,none⟩
def sM:FS:=⟨[.rd y61],[y4],kN,none⟩
def ri:FS:=⟨[.rd y59],[y3],ig,none⟩
def rj (n:Nat):FS:=⟨[.rd y59],[y3],dU n,none⟩
def uh:FS:=⟨[.rd y59],[y61],gN,none⟩
def ye:FS:=⟨[.rd y61,.rd y61,.rd y6],[y61],lL,none⟩
def D6:FS:=⟨[.rd y3],[y61],pY,none⟩
def po (n:Nat):FS:=⟨[.rd y61,.rd y3,.rd y3],[y61],kd n,none⟩
def nN (n:Nat):FS:=⟨[.rd y59],[y61],cS n,none⟩
def uE:FS:=⟨[.rd y61],[y61,y4],l8,none⟩
def Bq:FS:=⟨[.ptr 230 Lz,.rd y3,.rd y3],[],oq,none⟩
def pq (n:Nat):FS:=⟨[.ptr 230 Lz,.rd y59],[abc],dm n,none⟩
def pv:FS:=⟨[.rd y61],[Lz,y4],gR,none⟩
def zb:FS:=⟨[.rd Lz,.rd y3,.rd y3],[y3],pd,none⟩
def vJ:FS:=⟨[.rd y91,.rd y3],[y3],ot,none⟩
def uF:FS:=⟨[.rd Lz,.rd y3],[y4],l9,none⟩
def uG:FS:=⟨[.rd Lz,.rd y3],[mS,y4],jq,none⟩
def uH:FS:=⟨[],[mS],pJ,none⟩
def wQ:FS:=⟨[.rd mS,.rd y91,.rd HQ],[mS],iQ,none⟩
def vK:FS:=⟨[.rd mS],[HQ],lM,none⟩
def D7:FS:=⟨[.rd mS,.rd y91,.rd y3],[y91],pZ,none⟩
def uI:FS:=⟨[.rd mS],[y91],ju,none⟩
def sN:FS:=⟨[.rd mS],[mS],im,none⟩
def sO:FS:=⟨[.rd y61],[mS,y4],ir,none⟩
def lQ:FS:=⟨[.rd mS,.rd mS],[y4],fM,none⟩
def ze:FS:=⟨[.rd y37,.rd mS],[y3],mM,none⟩
def zf:FS:=⟨[.rd y38],[y40,y4],pe,none⟩
def uJ:FS:=⟨[.rd y61,.rd y61],[y4],mb,none⟩
def oz:FS:=⟨[.rd y40,.rd y40],[y4],gg,none⟩
def oA:FS:=⟨[.rd y40],[y4],gh,none⟩
def fR:FS:=⟨[.rd y36],[y3],bJ,none⟩
def wR:FS:=⟨[.rd y40,.rd y3],[y3],kO,none⟩
def Br:FS:=⟨[.rd y43],[y4],vA,none⟩
def nO:FS:=⟨[.rd y3],[y9],b7,none⟩
def nf:FS:=⟨[.rd y3],[y9],eN,none⟩
def pK:FS:=⟨[.rd vH],[y9],jv,none⟩
def oB:FS:=⟨[.rd y73],[y9],cT,none⟩
def zg:FS:=⟨[.rd y9],[y3],fU,none⟩
def ng:FS:=⟨[.rd y3,.rd y73],[y9],dD,none⟩
def wS:FS:=⟨[.rd y9,.rd y5],[aav],iw,none⟩
def sP:FS:=⟨[.rd y9],[y3,y4],fV,none⟩
def sQ:FS:=⟨[.rd y9],[y3,y4],fO,none⟩
def wT:FS:=⟨[.rd y9],[vH,y4],gi,none⟩
def uK:FS:=⟨[.rd y9],[y73,y4],dP,none⟩
def rD:FS:=⟨[.rd y9],[y3,y73,y4],jD,none⟩
def Bs:FS:=⟨[.rd y9],[y91,.sl 73 (.bag y73),y3],m_s_ScanLog,none⟩
def D8:FS:=⟨[.rd y43],[y4],ya,none⟩
def qf:FS:=⟨[.rd y43],[y4],iS,none⟩
def yf:FS:=⟨[.rd y91],[y91],p7,none⟩
def yg:FS:=⟨[.rd ZR],[vH],p8,none⟩
def Bt:FS:=⟨[.rd ZS],[Rk],qR,none⟩
def Bu:FS:=⟨[.rd ZT],[ug],qS,none⟩
def zh:FS:=⟨[.rd y22],[y34],pg,none⟩
def wU:FS:=⟨[.rd y24],[y36],nC,none⟩
def Bv:FS:=⟨[.rd HQ],[HQ],qT,none⟩
def Bw:FS:=⟨[.rd MO],[MO],qU,none⟩
def sR:FS:=⟨[.rd ZU],[mS],kR,none⟩
def rE:FS:=⟨[.rd y25],[y37],jE,none⟩
def Bx:FS:=⟨[.rd aat],[y6],qV,none⟩
def zi:FS:=⟨[.rd y54],[y59],ph,none⟩
def D9:FS:=⟨[.rd y56],[y61],ub,none⟩
def rF:FS:=⟨[.rd ZV],[CS],jF,none⟩
def qg:FS:=⟨[.rd y26],[y38],iT,none⟩
def uL:FS:=⟨[.rd y28],[y40],mg,none⟩
def rG:FS:=⟨[.rd aas],[y88],jG,none⟩
def qi:FS:=⟨[.rd y29],[y41],iU,none⟩
def zj:FS:=⟨[.rd y31],[y43],iy,none⟩
def jd:FS:=⟨[.rd y3,.rd y3,.rd y3],[y4],b8,none⟩
def ui:FS:=⟨[.rd vH,.rd y3],[y4],fP,none⟩
def gH:FS:=⟨[.rd ug],[y4],bK,none⟩
def c8:FS:=⟨[.rd y91,.rd y91],[y4],cn,none⟩
def lq:FS:=⟨[.rd y36],[y4],m_i_IsValidHistory,none⟩
def sS:FS:=⟨[.rd y3],[y4],ke,none⟩
def By:FS:=⟨[.rd y6],[y4],qW,none⟩
def bM:FS:=⟨[.rd ZW],[ZW],fun _=>none,some (274,8)⟩
def uj:FS:=⟨[.rd y61],[t274],nW,none⟩
def Ea:FS:=⟨[.rd y61],[y4],uc,none⟩
def sU:FS:=⟨[.rd y61],[y4],kT,none⟩
def mI (n:Nat):FS:=⟨[.rd t274],[y3],bS n,none⟩
def LA:FS:=⟨[.rd y3],[t274],Fl,none⟩
def pw (n:Nat):FS:=⟨[.eat t274,.rd y3,.rd y3],[t274],kg n,none⟩
def lr (n:Nat):FS:=⟨[.rd t274],[t274],bD n,none⟩
def jW (n:Nat):FS:=⟨[.rd t274,.ptr 61 y61],[],bB n,none⟩
def wV:FS:=⟨[.rd t274],[y61],qY,none⟩
def uM:FS:=⟨[.rd y61],[y61,y4],mi,none⟩
def nt:FS:=⟨[.ptr 230 Lz,.rd y3,.rd y3],[],dG,none⟩
def gA (n:Nat):FS:=⟨[.ptr 230 Lz,.rd t274],[abd],bE n,none⟩
def px:FS:=⟨[.rd y61],[Lz,y4],gS,none⟩
def nh:FS:=⟨[.rd y3,.rd y3,.fn [y3] [y4],.fn [y3,y3] [y3,y4]],[mS,y4],eO,none⟩
def mT:FS:=⟨[.rd Lz,.rd y3],[y4],du,none⟩
def oC:FS:=⟨[.rd Lz,.rd y3,.rd y3],[y3],gk,none⟩
def qj:FS:=⟨[.rd y3,.rd y3,.cap 230 Lz],[y3,y4],dh,none⟩
def sV:FS:=⟨[.rd Lz,.rd y3],[mS,y4],iz,none⟩
def bP:FS:=⟨[.rd HQ],[HQ],fun _=>none,some (4,1)⟩
def py:FS:=⟨[.rd mS],[HQ],eV,none⟩
def eI:FS:=⟨[.rd MO,.fn [y91] [y4]],[y3],bU,none⟩
def lF:FS:=⟨[.rd y91,.cap 91 y91],[y4],gP,none⟩
def nw:FS:=⟨[.rd mS,.rd y91],[y91,y3],dH,none⟩
def mU:FS:=⟨[.rd mS],[y91],dy,none⟩
def oD:FS:=⟨[.rd YX,.rd YX],[YX,YX],vB,none⟩
def oE:FS:=⟨[.rd YW,.rd YW],[YW,YW],ou,none⟩
def qk:FS:=⟨[.rd YV,.rd YV],[YV,YV],p9,none⟩
def iI:FS:=⟨[.rd y91,.rd y3],[y91],iB,none⟩
def Bz:FS:=⟨[],[mS],vC,none⟩
def jk:FS:=⟨[.rd y91,.rd y3],[y3],eK,none⟩
def kj:FS:=⟨[.rd y3,.cap 91 y91],[y3],bc,none⟩
def kl:FS:=⟨[.rd y3,.cap 189 mS,.capf 308 [y3] [y3]],[y4],cH,none⟩
def pz:FS:=⟨[.rd mS,.rd y3,.rd y3],[y3],eW,none⟩
def km:FS:=⟨[.rd y3,.rd y3,.cap 189 mS,.capf 308 [y3] [y3],.cap 91 y91],[y3,y4],cJ,none⟩
def lG:FS:=⟨[.rd mS],[mS],de,none⟩
def HS:FS:=⟨[.rd mS],[mS,y4],Bl,none⟩
def sW:FS:=⟨[.rd y61],[mS,y4],iC,none⟩
def cY:FS:=⟨[.rd y37,.fn [mS] [y4]],[y3],a8,none⟩
def gX:FS:=⟨[.rd HQ,.rd HQ],[y4],dK,none⟩
def cw:FS:=⟨[.rd MO,.rd MO,.fn [y91,y91] [y4]],[y4],bO,none⟩
def oF:FS:=⟨[.rd y91,.rd y91],[y4],gl,none⟩
def lR:FS:=⟨[.rd mS,.rd mS],[y4],dR,none⟩
def zk:FS:=⟨[.rd mS,.cap 189 mS],[y4],mO,none⟩
def sX:FS:=⟨[.rd y61],[y61],fW,none⟩
def Eb:FS:=⟨[.rd y38],[y40,y4],ud,none⟩
def bI:FS:=⟨[.rd y37,.rd y37,.fn [mS,mS] [y4]],[y4],aZ,none⟩
def bC:FS:=⟨[.rd y38,.rd y38,.fn [CS,CS] [y4]],[y4],aW,none⟩
def fY:FS:=⟨[.rd y59,.rd y59],[y4],cv,none⟩
def uN:FS:=⟨[.rd y61,.rd y61],[y4],mj,none⟩
def rH:FS:=⟨[.rd CS,.rd CS],[y4],gE,none⟩
def oG:FS:=⟨[.rd y40,.rd y40],[y4],gm,none⟩
def oH:FS:=⟨[.rd y40],[y4],gp,none⟩
def je:FS:=⟨[.rd y36],[y3],cd,none⟩
def cO:FS:=⟨[.rd y38,.fn [CS] [y4]],[y3],bT,none⟩
def sY:FS:=⟨[.rd CS,.cap 3 y3],[y4],kV,none⟩
def wW:FS:=⟨[.rd y40,.rd y3],[y3],kW,none⟩
def mV:FS:=⟨[.rd y9,.rd y5],[.int .i64],eX,none⟩
def rI:FS:=⟨[.rd y3],[.str],na,none⟩
def rk:FS:=⟨[.rd y3],[y9],dj,none⟩
def pL:FS:=⟨[.rd vH],[y9],jw,none⟩
def rJ:FS:=⟨[.rd aav,.rd y9],[.str],jH,none⟩
def oJ:FS:=⟨[.rd y73],[y9],dX,none⟩
def zm:FS:=⟨[.rd y9],[y3],kh,none⟩
def ni:FS:=⟨[.rd y3,.rd y73],[y9],eP,none⟩
def lS:FS:=⟨[.rd y9,.rd y9],[.sl 9 .str],cK,none⟩
def sZ:FS:=⟨[.rd y9],[.int .i64,.bool],fX,none⟩
def ta:FS:=⟨[.rd y9,.rd y9],[.str,.str,.bool],cW,none⟩
def wX:FS:=⟨[.rd y9],[vH,y4],gq,none⟩
def uO:FS:=⟨[.rd y9],[y73,y4],dQ,none⟩
def rK:FS:=⟨[.rd y9],[y3,y73,y4],jI,none⟩
def BA:FS:=⟨[.rd y9],[y91,.sl 73 (.bag y73),y3],m_i_ScanLog,none⟩
def ql:FS:=⟨[.rd y43],[y4],iV,none⟩
def yh:FS:=⟨[.rd y91,.rd y91],[y4],ue,none⟩
def yi:FS:=⟨[.rd vH,.rd vH],[y4],qa,none⟩
def BB:FS:=⟨[.rd Rk,.rd Rk],[y4],vD,none⟩
def BC:FS:=⟨[.rd ug,.rd ug],[y4],qZ,none⟩
def zn:FS:=⟨[.rd y34,.rd y34],[y4],sI,none⟩
def wY:FS:=⟨[.rd y36,.rd y36],[y4],nE,none⟩
def BD:FS:=⟨[.rd HQ,.rd HQ],[y4],vE,none⟩
def BE:FS:=⟨[.rd MO,.rd MO],[y4],vF,none⟩
def tc:FS:=⟨[.rd mS,.rd mS],[y4],kY,none⟩
def rL:FS:=⟨[.rd y37,.rd y37],[y4],nc,none⟩
def BF:FS:=⟨[.rd y6,.rd y6],[y4],q7,none⟩
def zo:FS:=⟨[.rd y59,.rd y59],[y4],sJ,none⟩
def Ec:FS:=⟨[.rd y61,.rd y61],[y4],uf,none⟩
def rM:FS:=⟨[.rd CS,.rd CS],[y4],jJ,none⟩
def qm:FS:=⟨[.rd y38,.rd y38],[y4],lO,none⟩
def uP:FS:=⟨[.rd y40,.rd y40],[y4],mr,none⟩
def rN:FS:=⟨[.rd y88,.rd y88],[y4],jK,none⟩
def qn:FS:=⟨[.rd y41,.rd y41],[y4],lP,none⟩
def zp:FS:=⟨[.rd y43,.rd y43],[y4],iD,none⟩
def nX:FS:=⟨[.rd ug],[ug],cx,none⟩
def yj:FS:=⟨[.rd y36],[y36],qb,none⟩
def BG:FS:=⟨[.rd mS],[mS],q8,none⟩
def BH:FS:=⟨[.rd y40],[y40],q9,none⟩
def BI:FS:=⟨[.rd y43],[y43],ra,none⟩
def tf:FS:=⟨[.rd y91],[y91],mP,none⟩
def lu:FS:=⟨[.rd ug],[ug],dL,none⟩
def oK:FS:=⟨[.rd y36],[y36],iE,none⟩
def qo:FS:=⟨[.rd mS],[mS],iW,none⟩
def rO:FS:=⟨[.rd y40],[y40],jL,none⟩
def uQ:FS:=⟨[.rd y43],[y43],mu,none⟩
def tg:FS:=⟨[.ow y91,.rd y3],[y3],mQ,none⟩
def wZ:FS:=⟨[.ow Rk,.rd y3],[y3],nF,none⟩
def uR:FS:=⟨[.ow y34,.rd y3],[y3],mw,none⟩
def th:FS:=⟨[.ow y36,.rd y3],[y3],k9,none⟩
def w4:FS:=⟨[.ow HQ,.rd y3],[y3],nG,none⟩
def w5:FS:=⟨[.ow MO,.rd y3],[y3],nH,none⟩
def pA:FS:=⟨[.ow y37,.rd y3],[y3],gT,none⟩
def uS:FS:=⟨[.ow y59,.rd y3],[y3],my,none⟩
def oL:FS:=⟨[.ow y38,.rd y3],[y3],gu,none⟩
def rP:FS:=⟨[.ow y40,.rd y3],[y3],jP,none⟩
def oM:FS:=⟨[.ow y41,.rd y3],[y3],gx,none⟩
def uT:FS:=⟨[.ow y43,.rd y3],[y3],ff,none⟩
def tj:FS:=⟨[.rd y91,.rd y3],[y3],mR,none⟩
def w6:FS:=⟨[.rd Rk,.rd y3],[y3],nI,none⟩
def uU:FS:=⟨[.rd y34,.rd y3],[y3],mz,none⟩
def tl:FS:=⟨[.rd y36,.rd y3],[y3],lf,none⟩
def w7:FS:=⟨[.rd HQ,.rd y3],[y3],nJ,none⟩
def w8:FS:=⟨[.rd MO,.rd y3],[y3],nK,none⟩
def pB:FS:=⟨[.rd y37,.rd y3],[y3],gU,none⟩
def uV:FS:=⟨[.rd y59,.rd y3],[y3],mA,none⟩
def oN:FS:=⟨[.rd y38,.rd y3],[y3],gy,none⟩
def rQ:FS:=⟨[.rd y40,.rd y3],[y3],jT,none⟩
def oO:FS:=⟨[.rd y41,.rd y3],[y3],gz,none⟩
def uW:FS:=⟨[.rd y43,.rd y3],[y3],gO,none⟩
def w9:FS:=⟨[.rd y66,.rd y3],[y3],rb,none⟩
def BJ:FS:=⟨[.rd y68,.rd y3],[y3],re,none⟩
def nP:FS:=⟨[.rd ug,.rd y3],[y3],jb,none⟩
def uX:FS:=⟨[.rd ug,.rd vH],[ug,y4],mB,none⟩
def uY:FS:=⟨[.rd ug,.rd y3],[ug,y4],mC,none⟩
def BK:FS:=⟨[.rd ug,.rd y73],[ug,y4],vG,none⟩
def uZ:FS:=⟨[.rd ug,.rd y73],[ug,y4],mD,none⟩
def tm:FS:=⟨[.rd y36,.rd y73],[y36,y4],iF,none⟩
def tn:FS:=⟨[.rd y43,.rd y73],[y43,y4],lh,none⟩
def zq:FS:=⟨[.rd aau],[Xl],pj,none⟩
def xa:FS:=⟨[.rd y66],[y71],nL,none⟩
def BL:FS:=⟨[.rd y68],[y73],j9,none⟩
def fp:FS:=⟨[.rd Rk,.fn [vH] [y4]],[y3],c7,none⟩
def tq:FS:=⟨[.rd vH,.cap 3 y3],[y4],oy,none⟩
def rl:FS:=⟨[.rd ug,.rd y3],[y3],lj,none⟩
def gI:FS:=⟨[.eat (.sl 168 vH),.rd y3,.ow (.sl 168 vH)],[.sl 168 vH],cC,none⟩
def u7:FS:=⟨[.rd ug,.rd vH],[ug,y4],mE,none⟩
def gY:FS:=⟨[.rd Rk,.rd vH],[y3],dM,none⟩
def fS:FS:=⟨[.rd Rk,.rd vH],[y4],cf,none⟩
def gJ:FS:=⟨[.eat (.sl 168 vH),.rd y3,.rd y3],[.sl 168 vH],cD,none⟩
def u9:FS:=⟨[.rd ug,.rd y3],[ug,y4],mF,none⟩
def vc:FS:=⟨[.rd ug,.rd y73],[ug,y4],mG,none⟩
def tu:FS:=⟨[.rd y36,.rd y73],[y36,y4],iG,none⟩
def tv:FS:=⟨[.rd y43,.rd y73],[y43,y4],iH,none⟩
def zr:FS:=⟨[.rd Xl,.rd Xl],[y4],pn,none⟩
def xb:FS:=⟨[.rd y71,.rd y71],[y4],rf,none⟩
def BM:FS:=⟨[.rd y73,.rd y73],[y4],rh,none⟩
def tw:FS:=⟨[.ow y71,.rd y3],[y3],ln,none⟩
def xc:FS:=⟨[.ow y73,.rd y3],[y3],nM,none⟩
def sd:FS:=⟨[.rd y31,.rd y68],[y4],eG,none⟩
end R
namespace R
open Go.RowKit
open D
theorem Ed:FOk Tryz.prog 206 yc:=fk [] trivial Tryz.func206 .no
theorem Jt:FOk Tryz.prog 207 Bm:=fk [] trivial Tryz.func207 .no
theorem Ju:FOk Tryz.prog 149 Bn:=fk [(206,yc),(207,Bm)] ⟨Ed,Jt,trivial⟩ Tryz.func149 .no
theorem HT:FOk Tryz.prog 95 y7:=fk [(149,Bn)] ⟨Ju,trivial⟩ Tryz.func95 (.two .no (.two .no (.two .no (.two (.two .no (.loop [.slot 1 (.num .i64),.slot 5 (.num .i64)] .no)) .no))))
theorem Fm:FOk Tryz.prog 40 wO:=fk [(95,y7)] ⟨HT,trivial⟩ Tryz.func40 .no
theorem Jv:FOk Tryz.prog 208 Bo:=fk [] trivial Tryz.func208 .no
theorem Jw:FOk Tryz.prog 209 Bp:=fk [(206,yc)] ⟨Ed,trivial⟩ Tryz.func209 (.two .no (.two .no (.two .no (.two (.two .no (.loop [.slot 1 (.num .i64),.slot 5 (.num .i64)] .no)) .no))))
theorem BN:FOk Tryz.prog 150 sK:=fk [(208,Bo),(209,Bp)] ⟨Jv,Jw,trivial⟩ Tryz.func150 .no
theorem zL:FOk Tryz.prog 96 rB:=fk [(150,sK)] ⟨BN,trivial⟩ Tryz.func96 (.two .no (.two .no (.two .no (.two (.two .no (.loop [.slot 1 (.num .i64),.slot 5 (.num .i64)] .no)) .no))))
theorem HU:FOk Tryz.prog 82 y8:=fk [] trivial Tryz.func82 .no
theorem MQ:FOk Tryz.prog 28 D4:=fk [(82,y8)] ⟨HU,trivial⟩ Tryz.func28 .no
theorem zM:FOk Tryz.prog 151 rC:=fk [(28,D4)] ⟨MQ,trivial⟩ Tryz.func151 .no
theorem yk:FOk Tryz.prog 97 qd:=fk [(151,rC)] ⟨zM,trivial⟩ Tryz.func97 (.two .no (.two .no (.two .no (.two (.two .no (.loop [.slot 1 (.num .i64),.slot 5 (.num .i64)] .no)) .no))))
theorem CT:FOk Tryz.prog 41 uD:=fk [(96,rB),(97,qd)] ⟨zL,yk,trivial⟩ Tryz.func41 .no
theorem ym:FOk Tryz.prog 42 qe:=fk [] trivial Tryz.func42 .no
theorem HV:FOk Tryz.prog 11 za:=fk [(40,wO),(41,uD),(42,qe)] ⟨Fm,CT,ym,trivial⟩ Tryz.func11 .no
theorem nQ:FOk Tryz.prog 59 mH:=fk [] trivial Tryz.func59 .no
end R
namespace R
open Go.RowKit
open D
theorem Ee:FOk Tryz.prog 152 yd:=fk [(59,mH)] ⟨nQ,trivial⟩ Tryz.func152 .no
theorem jX:FOk Tryz.prog 98 gG:=fk [(59,mH),(152,yd)] ⟨nQ,Ee,trivial⟩ Tryz.func98 (.two .no (.two (.two .no (.loop [.slot 3 (.num .i64)] .no)) (.two (.two .no (.loop [.slot 4 (.num .i64)] .no)) .no)))
theorem BO:FOk Tryz.prog 99 wP:=fk [] trivial Tryz.func99 (.two .no (.two (.two .no (.loop [.slot 5 (.num .i64)] .no)) .no))
theorem lx:FOk Tryz.prog 43 gW:=fk [(59,mH),(98,gG),(99,wP)] ⟨nQ,jX,BO,trivial⟩ Tryz.func43 (.two .no (.two (.two .no (.loop [.slot 3 (.num .i64)] .no)) .no))
theorem zt:FOk Tryz.prog 276 sL:=fk [(59,mH)] ⟨nQ,trivial⟩ Tryz.func276 .no
theorem BP:FOk Tryz.prog 322 vI:=fk [(59,mH),(276,sL)] ⟨nQ,zt,trivial⟩ Tryz.func322 (.two .no (.two (.two .no (.join [.slot 5 .boo] .no (.two .no (.two .no (.two .no (.join [.slot 37 .boo] .no .no)))))) .no))
theorem MR:FOk Tryz.prog 319 D5:=fk [(322,vI)] ⟨BP,trivial⟩ Tryz.func319 (.two .no (.two .no (.two (.two .no (.loop [.slot 3 (.num .i64),.slot 4 (.num .i64)] .no)) .no)))
theorem BQ:FOk Tryz.prog 281 sM:=fk [(319,D5)] ⟨MR,trivial⟩ Tryz.func281 .no
theorem vL:FOk Tryz.prog 284 ri:=fk [(322,vI)] ⟨BP,trivial⟩ Tryz.func284 (.two .no (.two .no (.two .no (.two (.loop [.slot 3 (.num .i64),.slot 4 (.num .i64)] .no) .no))))
theorem BR: ∀n,FOk Tryz.prog 282 (rj n)
 | 0=>kK (f:=rj 0) (enters_of Tryz.func282 (by kernel_rfl) rfl) rfl (fun d=>rfl)
 | n+1=>by
  have ih:=BR n
  exact fk [(282,(rj n)),(284,ri)] ⟨ih,vL,trivial⟩ Tryz.func282 (.two .no (.two .no (.two .no (.two (.two .no (.two (.two .no (.at [.slot 15 .boo] .no)) .no)) .no))))
theorem yn:FOk Tryz.prog 155 uh:=fk [] trivial Tryz.func155 .no
theorem Ef:FOk Tryz.prog 320 ye:=fk [(155,uh)] ⟨yn,trivial⟩ Tryz.func320 .no
theorem MS:FOk Tryz.prog 343 D6:=fk [] trivial Tryz.func343 .no
theorem zu: ∀n,FOk Tryz.prog 321 (po n)
 | 0=>kK (f:=po 0) (enters_of Tryz.func321 (by kernel_rfl) rfl) rfl (fun d=>rfl)
 | n+1=>by
  have ih:=zu n
  exact fk [(320,ye),(321,(po n)),(343,D6)] ⟨Ef,ih,MS,trivial⟩ Tryz.func321 .no
theorem xd: ∀n,FOk Tryz.prog 283 (nN n)
 | 0=>kK (f:=nN 0) (enters_of Tryz.func283 (by kernel_rfl) rfl) rfl (fun d=>rfl)
 | n+1=>by
  have ih:=xd n
  exact fk [(283,(nN n)),(284,ri),(320,ye),(321,(po gB))] ⟨ih,vL,Ef,(zu gB),trivial⟩ Tryz.func283 (.two .no (.two .no (.two .no (.two (.two .no (.two (.two .no (.at [.slot 15 .boo] .no)) .no)) .no))))
theorem CU:FOk Tryz.prog 248 uE:=fk [(281,sM),(282,(rj gB)),(283,(nN gB))] ⟨BQ,(BR gB),(xd gB),trivial⟩ Tryz.func248 .no
theorem Jx:FOk Tryz.prog 285 Bq:=fk [] trivial Tryz.func285 (.two .no (.loop [.slot 6 (.num .i64),.par 3 [3] 3 y3] (.two .no (.two (.at [.par 3 [3] 3 y3] .no) .no))))
end R
namespace R
open Go.RowKit
open D
theorem zw: ∀n,FOk Tryz.prog 249 (pq n)
 | 0=>kK (f:=pq 0) (enters_of Tryz.func249 (by kernel_rfl) rfl) rfl (fun d=>rfl)
 | n+1=>by
  have ih:=zw n
  exact fk [(249,(pq n)),(284,ri),(285,Bq)] ⟨ih,vL,Jx,trivial⟩ Tryz.func249 (.two .no (.two .no (.two .no (.two (.two .no (.two .no (.two .no (.two .no (.two .no (.two .no (.two (.two .no (.two .no (.two .no (.two .no (.two .no (.two (.two .no (.at [.box 11 [.boo,(.num .i64),(.num .i64)]] .no)) (.two (.two .no (.at [.box 11 [.boo,(.num .i64),(.num .i64)]] .no)) .no))))))) .no))))))) .no))))
theorem xe:FOk Tryz.prog 210 pv:=fk [(248,uE),(249,(pq gB))] ⟨CU,(zw gB),trivial⟩ Tryz.func210 (.two .no (.two .no (.two .no (.two .no (.two (.two .no (.loop [.slot 6 (.num .i64),.slot 7 (.num .i64)] (.two .no (.two (.at [.slot 6 (.num .i64)] .no) .no)))) .no)))))
theorem HW:FOk Tryz.prog 250 zb:=fk [] trivial Tryz.func250 (.two .no (.two .no (.join [.slot 7 (.num .i64)] .no (.two (.two .no (.loop [.slot 7 (.num .i64),.slot 8 (.num .i64)] (.two .no (.join [.slot 7 (.num .i64)] .no .no)))) (.two .no (.two (.two .no (.loop [.slot 9 (.num .i64),.slot 10 (.num .i64)] (.two .no (.join [.slot 9 (.num .i64)] .no .no)))) .no))))))
theorem BS:FOk Tryz.prog 251 vJ:=fk [] trivial Tryz.func251 (.two .no (.two (.two .no (.loop [.slot 5 (.num .i64)] .no)) .no))
theorem CV:FOk Tryz.prog 252 uF:=fk [] trivial Tryz.func252 .no
theorem CW:FOk Tryz.prog 211 uG:=fk [(250,zb),(251,vJ),(252,uF)] ⟨HW,BS,CV,trivial⟩ Tryz.func211 (.two .no (.two .no (.two .no (.two (.two .no (.loop [.slot 7 (.own 3 y3),.slot 8 (.num .i64),.box 6 [(.num .i64),(.own 4 y4),(.own 91 y91)]] (.two .no (.two (.two .no (.two (.two .no (.loop [.slot 7 (.own 3 y3),.slot 9 (.own 3 y3),.slot 10 (.num .i64)] (.two .no (.two (.two .no (.two .no (.join [.slot 7 (.own 3 y3),.slot 12 (.num .i64)] .no .no))) .no)))) .no)) .no)))) .no))))
theorem CX:FOk Tryz.prog 286 uH:=fk [] trivial Tryz.func286 (.two .no (.two .no (.two (.two .no (.loop [.slot 1 (.own 3 y3),.slot 2 (.num .i64)] .no)) .no)))
theorem Fo:FOk Tryz.prog 253 wQ:=fk [(251,vJ),(286,uH)] ⟨BS,CX,trivial⟩ Tryz.func253 (.two .no (.two .no (.two .no (.two .no (.two .no (.two (.two .no (.loop [.slot 8 (.own 3 y3),.slot 9 (.own 3 y3),.slot 10 (.num .i64),.box 7 [(.num .i64),(.own 4 y4),(.own 91 y91)]] (.two .no (.two (.two .no (.two (.two .no (.loop [.slot 8 (.own 3 y3),.slot 9 (.own 3 y3),.slot 11 (.own 3 y3),.slot 12 (.num .i64)] (.two .no (.two (.two .no (.two .no (.join [.slot 8 (.own 3 y3),.slot 9 (.own 3 y3),.slot 14 (.num .i64)] .no .no))) .no)))) .no)) .no)))) .no))))))
theorem BT:FOk Tryz.prog 255 vK:=fk [] trivial Tryz.func255 (.two .no (.two .no (.two (.two .no (.loop [.row 3 4 y4,.slot 4 (.num .i64)] (.two .no (.two (.two .no (.loop [.row 3 4 y4,.slot 5 (.num .i64)] (.two .no (.two (.two .no (.loop [.row 3 4 y4,.slot 6 (.num .i64)] (.two .no (.join [.row 3 4 y4] .no .no)))) .no)))) .no)))) .no)))
theorem MT:FOk Tryz.prog 287 D7:=fk [] trivial Tryz.func287 (.two .no (.two .no (.two (.two .no (.loop [.slot 7 (.own 3 y3),.slot 8 (.num .i64)] (.two .no (.join [.slot 7 (.own 3 y3)] .no .no)))) .no)))
theorem CY:FOk Tryz.prog 254 uI:=fk [(99,wP),(255,vK),(287,D7)] ⟨BO,BT,MT,trivial⟩ Tryz.func254 (.two .no (.two .no (.two .no (.two (.two .no (.loop [.slot 4 (.own 3 y3),.slot 5 (.num .i64)] (.two .no (.two (.two .no (.two (.two .no (.at [.slot 6 (.num .i64)] .no)) (.two (.two .no (.at [.slot 6 (.num .i64)] .no)) .no))) .no)))) (.two (.two .no (.loop [.slot 4 (.own 3 y3),.slot 7 (.num .i64)] (.two .no (.two (.two .no (.two .no (.two (.two .no (.loop [.slot 8 (.own 91 y91),.slot 9 (.own 3 y3),.slot 10 (.num .i64)] (.two .no (.two (.at [.slot 8 (.own 91 y91),.slot 9 (.own 3 y3)] (.two .no (.two .no (.two .no (.two (.two .no (.loop [.slot 12 (.num .i64),.slot 13 (.num .i64)] (.two .no (.two (.at [.slot 12 (.num .i64)] .no) .no)))) (.two (.two .no (.at [.slot 8 (.own 91 y91),.slot 12 (.num .i64),.gone 11] .no)) .no)))))) .no)))) .no))) .no)))) .no)))))
theorem BU:FOk Tryz.prog 212 sN:=fk [(253,wQ),(254,uI),(255,vK)] ⟨Fo,CY,BT,trivial⟩ Tryz.func212 .no
theorem BV:FOk Tryz.prog 153 sO:=fk [(210,pv),(211,uG),(212,sN)] ⟨xe,CW,BU,trivial⟩ Tryz.func153 .no
theorem qp:FOk Tryz.prog 156 lQ:=fk [(99,wP)] ⟨BO,trivial⟩ Tryz.func156 (.two .no (.two .no (.two (.two .no (.loop [.slot 5 (.num .i64)] .no)) (.two (.two .no (.loop [.slot 6 (.num .i64)] .no)) .no))))
theorem HY:FOk Tryz.prog 154 ze:=fk [(156,lQ)] ⟨qp,trivial⟩ Tryz.func154 (.two .no (.two (.two .no (.loop [.slot 5 (.num .i64)] .no)) .no))
theorem HZ:FOk Tryz.prog 100 zf:=fk [(59,mH),(153,sO),(154,ze),(155,uh)] ⟨nQ,BV,HY,yn,trivial⟩ Tryz.func100 (.two .no (.two .no (.two .no (.two (.two .no (.loop [.slot 5 (.num .i64),.box 4 [(.own 189 mS),(.own 137 CS)]] (.two .no (.two (.two .no (.two .no (.two .no (.join [.slot 8 (.num .i64),.box 4 [(.own 189 mS),(.own 137 CS)],.gone 6] .no .no)))) .no)))) .no))))
theorem CZ:FOk Tryz.prog 157 uJ:=fk [] trivial Tryz.func157 (.two .no (.two .no (.two (.two .no (.loop [.slot 5 (.num .i64)] .no)) .no)))
end R
namespace R
open Go.RowKit
open D
theorem vM:FOk Tryz.prog 101 oz:=fk [(156,lQ),(157,uJ)] ⟨qp,CZ,trivial⟩ Tryz.func101 (.two .no (.two .no (.two (.two .no (.loop [.slot 5 (.num .i64)] .no)) (.two (.two .no (.loop [.slot 6 (.num .i64)] .no)) .no))))
theorem vN:FOk Tryz.prog 44 oA:=fk [(100,zf),(101,oz)] ⟨HZ,vM,trivial⟩ Tryz.func44 .no
theorem jf:FOk Tryz.prog 63 fR:=fk [(43,gW)] ⟨lx,trivial⟩ Tryz.func63 .no
theorem Fp:FOk Tryz.prog 79 wR:=fk [] trivial Tryz.func79 (.two .no (.two (.two .no (.loop [.slot 5 (.num .i64)] .no)) .no))
theorem Jy:FOk Tryz.prog 45 Br:=fk [(59,mH),(63,fR),(79,wR)] ⟨nQ,jf,Fp,trivial⟩ Tryz.func45 (.two .no (.two (.two .no (.loop [.slot 3 (.num .i64)] .no)) .no))
theorem rm:FOk Tryz.prog 144 nO:=fk [] trivial Tryz.func144 (.two .no (.two .no (.two .no (.two .no (.two (.loop [.slot 0 (.num .i64),.slot 3 .str] (.two .no (.two .no (.two (.two .no (.at [.slot 5 (.num .i64)] .no)) .no)))) .no)))))
theorem rR:FOk Tryz.prog 243 nf:=fk [(276,sL)] ⟨zt,trivial⟩ Tryz.func243 .no
theorem vd:FOk Tryz.prog 200 pK:=fk [(59,mH),(144,nO),(243,nf)] ⟨nQ,rm,rR,trivial⟩ Tryz.func200 .no
theorem tx:FOk Tryz.prog 143 oB:=fk [(200,pK)] ⟨vd,trivial⟩ Tryz.func143 (.two .no (.two .no (.two .no (.two (.two .no (.loop [.slot 3 .str,.slot 4 (.num .i64)] (.two .no (.two (.atX [.slot 3 .str] (.two .no (.two .no (.two (.two .no (.at [.slot 3 .str] .no)) .no)))) .no)))) .no))))
theorem H0:FOk Tryz.prog 145 zg:=fk [] trivial Tryz.func145 (.two .no (.two .no (.two (.two .no (.loop [.slot 3 (.num .i64),.slot 4 (.num .i64)] .no)) .no)))
theorem rS:FOk Tryz.prog 90 ng:=fk [(59,mH),(143,oB),(144,nO),(145,zg)] ⟨nQ,tx,rm,H0,trivial⟩ Tryz.func90 .no
theorem BW:FOk Tryz.prog 177 wS:=fk [] trivial Tryz.func177 (.two .no (.two .no (.two .no (.two (.two .no (.loop [.slot 5 (.own 9 y9),.slot 6 (.num .i64),.slot 7 (.num .i64)] (.two .no (.two (.at [.slot 5 (.own 9 y9),.slot 6 (.num .i64)] .no) .no)))) .no))))
theorem zx:FOk Tryz.prog 178 sP:=fk [(144,nO)] ⟨rm,trivial⟩ Tryz.func178 (.two .no (.two .no (.two .no (.two (.two .no (.loop [.slot 4 (.num .i64),.slot 5 (.num .i64),.slot 6 (.num .i64)] (.two .no (.two (.at [.slot 4 (.num .i64),.slot 5 (.num .i64)] .no) .no)))) (.two (.two .no (.at [.slot 4 (.num .i64)] .no)) .no)))))
theorem BX:FOk Tryz.prog 271 sQ:=fk [(243,nf)] ⟨rR,trivial⟩ Tryz.func271 (.two .no (.two (.two .no (.loop [.slot 4 (.num .i64)] .no)) .no))
theorem Fq:FOk Tryz.prog 232 wT:=fk [(177,wS),(178,sP),(200,pK),(271,sQ)] ⟨BW,zx,vd,BX,trivial⟩ Tryz.func232 .no
theorem C1:FOk Tryz.prog 179 uK:=fk [(143,oB),(177,wS),(232,wT)] ⟨tx,BW,Fq,trivial⟩ Tryz.func179 (.two .no (.two .no (.two .no (.two .no (.two (.two .no (.loop [.slot 6 (.num .i64),.box 4 [(.own 170 (.prod y4 vH))]] .no)) .no)))))
theorem zN:FOk Tryz.prog 118 rD:=fk [(90,ng),(177,wS),(178,sP),(179,uK)] ⟨rS,BW,zx,C1,trivial⟩ Tryz.func118 .no
end R
namespace R
open Go.RowKit
open D
theorem Jz:FOk Tryz.prog 60 Bs:=Lw (ps:=[.rd y9]) (A:=y91) (E:=73) (t:=y73) (B:=y3) (m:=m_s_ScanLog) (fk [(118,rD)] ⟨zN,trivial⟩ Tryz.func60 (.two .no (.two .no (.two .no (.two .no (.two (.two .no (.loop [.slot 5 (.own 3 y3),.slot 6 (.own 73 y73),.slot 7 (.num .i64),.slot 8 (.num .i64)] (.two .no (.two (.atX [.slot 5 (.own 3 y3),.slot 6 (.own 73 y73),.slot 7 (.num .i64)] .no) .no)))) .no))))))
theorem MU:FOk Tryz.prog 46 D8:=fk [(60,Bs),(63,fR)] ⟨Jz,jf,trivial⟩ Tryz.func46 .no
theorem yo:FOk Tryz.prog 12 qf:=fk [(43,gW),(44,oA),(45,Br),(46,D8)] ⟨lx,vN,Jy,MU,trivial⟩ Tryz.func12 .no
theorem Eg:FOk Tryz.prog 213 yf:=fk [] trivial Tryz.func213 (.two .no (.two .no (.two (.two .no (.loop [.row 3 3 y3,.slot 4 (.num .i64)] .no)) .no)))
theorem Eh:FOk Tryz.prog 201 yg:=fk [] trivial Tryz.func201 .no
theorem JA:FOk Tryz.prog 214 Bt:=fk [(201,yg)] ⟨Eh,trivial⟩ Tryz.func214 (.two .no (.two .no (.two (.two .no (.loop [.row 3 168 vH,.slot 4 (.num .i64)] .no)) .no)))
theorem JB:FOk Tryz.prog 158 Bu:=fk [(213,yf),(214,Bt)] ⟨Eg,JA,trivial⟩ Tryz.func158 .no
theorem H1:FOk Tryz.prog 102 zh:=fk [(158,Bu)] ⟨JB,trivial⟩ Tryz.func102 (.two .no (.two .no (.two (.two .no (.loop [.row 3 126 ug,.slot 4 (.num .i64)] .no)) .no)))
theorem Fs:FOk Tryz.prog 47 wU:=fk [(102,zh)] ⟨H1,trivial⟩ Tryz.func47 .no
theorem JC:FOk Tryz.prog 215 Bv:=fk [] trivial Tryz.func215 (.two .no (.two .no (.two (.two .no (.loop [.row 3 4 y4,.slot 4 (.num .i64)] .no)) .no)))
theorem JD:FOk Tryz.prog 216 Bw:=fk [(213,yf)] ⟨Eg,trivial⟩ Tryz.func216 (.two .no (.two .no (.two (.two .no (.loop [.row 3 91 y91,.slot 4 (.num .i64)] .no)) .no)))
theorem BY:FOk Tryz.prog 159 sR:=fk [(215,Bv),(216,Bw)] ⟨JC,JD,trivial⟩ Tryz.func159 .no
theorem zO:FOk Tryz.prog 103 rE:=fk [(159,sR)] ⟨BY,trivial⟩ Tryz.func103 (.two .no (.two .no (.two (.two .no (.loop [.row 3 189 mS,.slot 4 (.num .i64)] .no)) .no)))
theorem JE:FOk Tryz.prog 139 Bx:=fk [] trivial Tryz.func139 .no
theorem H2:FOk Tryz.prog 84 zi:=fk [(139,Bx)] ⟨JE,trivial⟩ Tryz.func84 (.two .no (.two .no (.two (.two .no (.loop [.row 3 161 y6,.slot 4 (.num .i64)] .no)) .no)))
theorem MV:FOk Tryz.prog 30 D9:=fk [(84,zi)] ⟨H2,trivial⟩ Tryz.func30 .no
theorem zP:FOk Tryz.prog 160 rF:=fk [(30,D9)] ⟨MV,trivial⟩ Tryz.func160 .no
end R
namespace R
open Go.RowKit
open D
theorem yp:FOk Tryz.prog 104 qg:=fk [(160,rF)] ⟨zP,trivial⟩ Tryz.func104 (.two .no (.two .no (.two (.two .no (.loop [.row 3 137 CS,.slot 4 (.num .i64)] .no)) .no)))
theorem C2:FOk Tryz.prog 48 uL:=fk [(103,rE),(104,qg)] ⟨zO,yp,trivial⟩ Tryz.func48 .no
theorem zQ:FOk Tryz.prog 105 rG:=fk [] trivial Tryz.func105 .no
theorem yq:FOk Tryz.prog 49 qi:=fk [(105,rG)] ⟨zQ,trivial⟩ Tryz.func49 (.two .no (.two .no (.two (.two .no (.loop [.row 3 88 y88,.slot 4 (.num .i64)] .no)) .no)))
theorem H3:FOk Tryz.prog 13 zj:=fk [(47,wU),(48,uL),(49,qi)] ⟨Fs,C2,yq,trivial⟩ Tryz.func13 .no
theorem ko:FOk Tryz.prog 53 jd:=fk [] trivial Tryz.func53 .no
theorem yr:FOk Tryz.prog 161 ui:=fk [(53,jd)] ⟨ko,trivial⟩ Tryz.func161 .no
theorem jY:FOk Tryz.prog 106 gH:=fk [(53,jd),(161,ui)] ⟨ko,yr,trivial⟩ Tryz.func106 (.two .no (.two .no (.two (.two .no (.loop [.slot 14 (.num .i64)] .no)) (.two (.two .no (.loop [.slot 25 (.num .i64)] .no)) .no))))
theorem eL:FOk Tryz.prog 107 c8:=fk [] trivial Tryz.func107 (.two .no (.two .no (.two (.two .no (.loop [.slot 13 (.num .i64)] .no)) .no)))
theorem pC:FOk Tryz.prog 50 lq:=fk [(53,jd),(106,gH),(107,c8)] ⟨ko,jY,eL,trivial⟩ Tryz.func50 (.two .no (.two .no (.two .no (.two (.two .no (.loop [.slot 24 (.num .i64)] .no)) .no))))
theorem zy:FOk Tryz.prog 326 sS:=fk [(53,jd)] ⟨ko,trivial⟩ Tryz.func326 .no
theorem JF:FOk Tryz.prog 293 By:=fk [(53,jd),(326,sS)] ⟨ko,zy,trivial⟩ Tryz.func293 (.two .no (.two (.two .no (.two .no (.two .no (.two .no (.two .no (.join [.slot 37 .boo] .no .no)))))) .no))
theorem nj:FOk Tryz.prog 294 bM:=HL (f:=bM) (kK (f:=⟨bM.ps,bM.rs,bM.m,none⟩) (enters_of Tryz.func294 (by kernel_rfl) rfl) rfl (fun d=>rfl)) (Ls (V:=⟨tt,[],[(5,.raw)],8,[]⟩) MP trivial mixed Tryz.func294 rfl rfl (enters_of Tryz.func294 (by kernel_rfl) rfl) (bg rfl) .no (fun E bn xs=>by cases bn <;> kernel_rfl))
theorem yt:FOk Tryz.prog 258 uj:=fk [(293,By),(294,bM)] ⟨JF,nj,trivial⟩ Tryz.func258 (.two .no (.two .no (.two (.two .no (.loop [.slot 3 (.own 274 aaw),.slot 13 (.num .i64)] (.two .no (.two .no (.two (.two .no (.two .no (.two (.two .no (.at [.slot 6 (.num .i64)] (.two (.two .no (.at [.slot 19 .boo] .no)) (.two .no (.two (.two .no (.at [.slot 22 .boo] .no)) .no))))) .no))) .no))))) .no))) (tr:=[(302,274,y6)])
theorem MW:FOk Tryz.prog 323 Ea:=fk [(258,uj)] ⟨yt,trivial⟩ Tryz.func323 .no (tr:=[(302,274,y6)])
theorem BZ:FOk Tryz.prog 288 sU:=fk [(323,Ea)] ⟨MW,trivial⟩ Tryz.func288 .no
theorem ve: ∀n,FOk Tryz.prog 289 (mI n)
 | 0=>kK (f:=mI 0) (enters_of Tryz.func289 (by kernel_rfl) rfl) rfl (fun d=>rfl)
 | n+1=>by
  have ih:=ve n
  exact fk [(289,(mI n))] ⟨ih,trivial⟩ Tryz.func289 (.two .no (.two .no (.two (.two .no (.loop [.slot 3 (.num .i64),.slot 11 (.num .i64)] (.two .no (.two .no (.two (.at [.slot 3 (.num .i64)] .no) .no))))) .no))) (tr:=[(302,274,y6)])
end R
namespace R
open Go.RowKit
open D
theorem Tf:FOk Tryz.prog 344 LA:=fk [] trivial Tryz.func344 .no (tr:=[(302,274,y6)])
theorem zz: ∀n,FOk Tryz.prog 324 (pw n)
 | 0=>kK (f:=pw 0) (enters_of Tryz.func324 (by kernel_rfl) rfl) rfl (fun d=>rfl)
 | n+1=>by
  have ih:=zz n
  exact fk [(324,(pw n)),(344,LA)] ⟨ih,Tf,trivial⟩ Tryz.func324 .no (tr:=[(302,274,y6)])
theorem tz: ∀n,FOk Tryz.prog 290 (lr n)
 | 0=>kK (f:=lr 0) (enters_of Tryz.func290 (by kernel_rfl) rfl) rfl (fun d=>rfl)
 | n+1=>by
  have ih:=tz n
  exact fk [(290,(lr n)),(324,(pw gB))] ⟨ih,(zz gB),trivial⟩ Tryz.func290 (.two .no (.two .no (.two .no (.two (.two .no (.loop [.slot 41 (.num .i64),.box 3 [(.num .i64),(.num .i64),(.num .i64),(.num .i64),(.own 274 (.tree 302 274 y6))]] .no)) .no)))) (an:=[(52,t274)]) (tr:=[(302,274,y6)])
theorem rT: ∀n,FOk Tryz.prog 325 (jW n)
 | 0=>kK (f:=jW 0) (enters_of Tryz.func325 (by kernel_rfl) rfl) rfl (fun d=>rfl)
 | n+1=>by
  have ih:=rT n
  exact fk [(325,(jW n))] ⟨ih,trivial⟩ Tryz.func325 (.two (.two .no (.loop [.slot 11 (.num .i64),.box 1 [(.own 161 y6)]] .no)) .no) (tr:=[(302,274,y6)])
theorem Ft:FOk Tryz.prog 291 wV:=fk [(325,(jW gB))] ⟨(rT gB),trivial⟩ Tryz.func291 .no (tr:=[(302,274,y6)])
theorem C3:FOk Tryz.prog 256 uM:=fk [(258,uj),(288,sU),(289,(mI gB)),(290,(lr gB)),(291,wV)] ⟨yt,BZ,(ve gB),(tz gB),Ft,trivial⟩ Tryz.func256 .no (tr:=[(302,274,y6)])
theorem uA:FOk Tryz.prog 292 nt:=fk [] trivial Tryz.func292 (.two .no (.loop [.slot 12 (.num .i64),.par 3 [3] 3 y3] (.two .no (.two .no (.two (.at [.par 3 [3] 3 y3] .no) .no)))))
theorem oP: ∀n,FOk Tryz.prog 257 (gA n)
 | 0=>kK (f:=gA 0) (enters_of Tryz.func257 (by kernel_rfl) rfl) rfl (fun d=>rfl)
 | n+1=>by
  have ih:=oP n
  exact fk [(257,(gA n)),(292,nt)] ⟨ih,uA,trivial⟩ Tryz.func257 (.two .no (.two (.two .no (.two .no (.two .no (.two .no (.two .no (.two .no (.two .no (.two .no (.two (.two .no (.two .no (.two .no (.two (.two .no (.at [.box 10 [(.num .i64),(.num .i64),.boo]] .no)) (.two (.two .no (.at [.box 10 [(.num .i64),(.num .i64),.boo]] .no)) .no))))) .no))))))))) .no)) (tr:=[(302,274,y6)])
theorem xf:FOk Tryz.prog 217 px:=fk [(256,uM),(257,(gA gB)),(258,uj)] ⟨C3,(oP gB),yt,trivial⟩ Tryz.func217 (.two .no (.two .no (.two .no (.two .no (.two (.two .no (.loop [.slot 6 (.num .i64),.slot 22 (.num .i64)] (.two .no (.two .no (.two (.at [.slot 6 (.num .i64)] .no) .no))))) .no))))) (tr:=[(302,274,y6)])
theorem rU:FOk Tryz.prog 259 nh:=fk [] trivial Tryz.func259 (.two .no (.two .no (.two .no (.two .no (.two (.two .no (.loop [.slot 10 (.own 3 y3),.slot 11 (.map ⟨3,3,.int,.int⟩),.slot 13 (.num .i64),.box 12 [(.num .i64),(.own 4 y4),(.own 91 y91)]] (.two .no (.two (.two .no (.two (.two .no (.loop [.slot 10 (.own 3 y3),.slot 11 (.map ⟨3,3,.int,.int⟩),.slot 14 (.own 3 y3),.slot 15 (.num .i64)] (.two .no (.join [.slot 10 (.own 3 y3),.slot 11 (.map ⟨3,3,.int,.int⟩),.slot 14 (.own 3 y3)] (.two .no (.two .no (.two .no (.join [.slot 10 (.own 3 y3),.slot 11 (.map ⟨3,3,.int,.int⟩),.slot 18 (.num .i64)] .no .no)))) .no)))) .no)) .no)))) .no)))))
theorem tC:FOk Tryz.prog 260 mT:=fk [] trivial Tryz.func260 .no
theorem vO:FOk Tryz.prog 262 oC:=fk [] trivial Tryz.func262 (.two .no (.two .no (.join [.slot 7 (.num .i64)] .no (.two (.two .no (.loop [.slot 7 (.num .i64),.slot 21 (.num .i64)] (.two .no (.two .no (.join [.slot 7 (.num .i64)] .no .no))))) (.two .no (.two (.two .no (.loop [.slot 10 (.num .i64),.slot 39 (.num .i64)] (.two .no (.two .no (.join [.slot 10 (.num .i64)] .no .no))))) .no))))))
theorem yu:FOk Tryz.prog 261 qj:=fk [(262,oC)] ⟨vO,trivial⟩ Tryz.func261 .no
theorem B0:FOk Tryz.prog 218 sV:=fk [(259,nh),(260,mT),(261,qj)] ⟨rU,tC,yu,trivial⟩ Tryz.func218 .no
theorem nR:FOk Tryz.prog 345 bP:=HL (f:=bP) (kK (f:=⟨bP.ps,bP.rs,bP.m,none⟩) (enters_of Tryz.func345 (by kernel_rfl) rfl) rfl (fun d=>rfl)) (Ls (V:=⟨tt,[],[(5,.raw)],8,[]⟩) MP trivial mixed Tryz.func345 rfl rfl (enters_of Tryz.func345 (by kernel_rfl) rfl) (bg rfl) .no (fun E bn xs=>by cases bn <;> kernel_rfl))
theorem xg:FOk Tryz.prog 327 py:=fk [(345,bP)] ⟨nR,trivial⟩ Tryz.func327 (.two .no (.two .no (.two (.two .no (.loop [.slot 4 .boo,.row 3 4 y4] (.two .no (.two .no (.two .no (.loop [.slot 4 .boo,.slot 16 (.num .i64),.row 3 4 y4] (.two .no (.two .no (.two (.two .no (.two .no (.loop [.slot 4 .boo,.slot 23 (.num .i64),.row 3 4 y4] (.two .no (.two .no (.two (.at [.slot 4 .boo,.row 3 4 y4] .no) .no)))))) .no))))))))) .no)))
theorem kA:FOk Tryz.prog 346 eI:=fk [] trivial Tryz.func346 (.two .no (.two (.two .no (.loop [.slot 8 (.num .i64)] .no)) .no))
end R
namespace R
open Go.RowKit
open D
theorem se:FOk Tryz.prog 347 lF:=fk [(107,c8)] ⟨eL,trivial⟩ Tryz.func347 .no
theorem uB:FOk Tryz.prog 328 nw:=fk [(346,eI),(347,lF)] ⟨kA,se,trivial⟩ Tryz.func328 (.two .no (.two .no (.two .no (.two (.two .no (.loop [.slot 6 (.own 91 y91),.slot 7 (.own 3 y3),.slot 18 (.num .i64)] (.two .no (.two .no (.join [.slot 6 (.own 91 y91),.slot 7 (.own 3 y3)] (.two .no (.two .no (.two .no (.two (.two .no (.loop [.slot 36 (.num .i64),.box 10 [(.own 3 y3)]] (.two .no (.two .no (.two (.two .no (.join [.slot 12 (.num .i64)] .no .no)) .no))))) (.two .no (.join [.slot 6 (.own 91 y91),.slot 13 (.num .i64),.gone 10] .no .no)))))) .no))))) .no))))
theorem tD:FOk Tryz.prog 295 mU:=fk [(327,py),(328,nw)] ⟨xg,uB,trivial⟩ Tryz.func295 (.two .no (.two .no (.two (.two .no (.loop [.slot 3 (.own 3 y3),.slot 13 (.num .i64)] (.two .no (.two .no (.join [.slot 3 (.own 3 y3)] .no .no))))) (.two .no (.loop [.slot 3 (.own 3 y3),.slot 6 (.num .i64)] .no)))))
theorem vP:FOk Tryz.prog 354 oD:=fk [] trivial Tryz.func354 .no
theorem vQ:FOk Tryz.prog 355 oE:=fk [] trivial Tryz.func355 .no
theorem yw:FOk Tryz.prog 348 qk:=fk [(354,oD),(355,oE)] ⟨vP,vQ,trivial⟩ Tryz.func348 .no
theorem oQ:FOk Tryz.prog 329 iI:=fk [(348,qk)] ⟨yw,trivial⟩ Tryz.func329 (.two .no (.two .no (.two .no (.two .no (.two .no (.two .no (.two (.loop [.slot 8 (.num .i64),.row 7 3 (.int .i64)] .no) .no))))))) (an:=[(44,.bool)])
theorem JG:FOk Tryz.prog 296 Bz:=fk [(329,iI)] ⟨oQ,trivial⟩ Tryz.func296 .no
theorem oY:FOk Tryz.prog 298 jk:=fk [] trivial Tryz.func298 (.two .no (.two (.two .no (.loop [.slot 8 (.num .i64)] .no)) .no))
theorem qq:FOk Tryz.prog 297 kj:=fk [(298,jk)] ⟨oY,trivial⟩ Tryz.func297 .no
theorem qu:FOk Tryz.prog 299 kl:=fk [] trivial Tryz.func299 .no
theorem xh:FOk Tryz.prog 301 pz:=fk [(326,sS)] ⟨zy,trivial⟩ Tryz.func301 .no
theorem qv:FOk Tryz.prog 300 km:=fk [(301,pz)] ⟨xh,trivial⟩ Tryz.func300 .no
theorem sf:FOk Tryz.prog 263 lG:=fk [(259,nh),(295,mU),(296,Bz),(297,kj),(299,kl),(300,km)] ⟨rU,tD,JG,qq,qu,qv,trivial⟩ Tryz.func263 .no
theorem PT:FOk Tryz.prog 219 HS:=fk [(263,lG)] ⟨sf,trivial⟩ Tryz.func219 .no
theorem B1:FOk Tryz.prog 162 sW:=fk [(217,px),(218,sV),(219,HS)] ⟨xf,B0,PT,trivial⟩ Tryz.func162 .no
theorem gK:FOk Tryz.prog 163 cY:=fk [] trivial Tryz.func163 (.two .no (.two (.two .no (.loop [.slot 8 (.num .i64)] .no)) .no))
end R
namespace R
open Go.RowKit
open D
theorem nS:FOk Tryz.prog 220 gX:=fk [] trivial Tryz.func220 (.two .no (.two .no (.two (.two .no (.loop [.slot 13 (.num .i64)] .no)) .no)))
theorem fa:FOk Tryz.prog 221 cw:=fk [] trivial Tryz.func221 (.two .no (.two .no (.two (.two .no (.loop [.slot 17 (.num .i64)] .no)) .no)))
theorem vR:FOk Tryz.prog 222 oF:=fk [(107,c8)] ⟨eL,trivial⟩ Tryz.func222 .no
theorem qw:FOk Tryz.prog 165 lR:=fk [(220,gX),(221,cw),(222,oF)] ⟨nS,fa,vR,trivial⟩ Tryz.func165 .no
theorem H4:FOk Tryz.prog 164 zk:=fk [(165,lR)] ⟨qw,trivial⟩ Tryz.func164 .no
theorem zA:FOk Tryz.prog 166 sX:=fk [] trivial Tryz.func166 .no
theorem MX:FOk Tryz.prog 108 Eb:=fk [(53,jd),(162,sW),(163,cY),(164,zk),(166,sX)] ⟨ko,B1,gK,H4,zA,trivial⟩ Tryz.func108 (.two .no (.two .no (.two (.two .no (.loop [.slot 13 (.num .i64),.box 4 [(.own 189 mS),(.own 137 CS)]] (.two .no (.two .no (.two (.two .no (.two .no (.two .no (.two .no (.join [.slot 9 (.num .i64),.box 4 [(.own 189 mS),(.own 137 CS)],.gone 7] .no .no))))) .no))))) .no)))
theorem cP:FOk Tryz.prog 167 bI:=fk [] trivial Tryz.func167 (.two .no (.two .no (.two (.two .no (.loop [.slot 17 (.num .i64)] .no)) .no)))
theorem cE:FOk Tryz.prog 168 bC:=fk [] trivial Tryz.func168 (.two .no (.two .no (.two (.two .no (.loop [.slot 17 (.num .i64)] .no)) .no)))
theorem mW:FOk Tryz.prog 264 fY:=fk [] trivial Tryz.func264 (.two .no (.two .no (.two (.two .no (.loop [.slot 13 (.num .i64)] .no)) .no)))
theorem C4:FOk Tryz.prog 223 uN:=fk [(264,fY)] ⟨mW,trivial⟩ Tryz.func223 .no
theorem zR:FOk Tryz.prog 169 rH:=fk [(223,uN)] ⟨C4,trivial⟩ Tryz.func169 .no
theorem vS:FOk Tryz.prog 109 oG:=fk [(165,lR),(167,bI),(168,bC),(169,rH)] ⟨qw,cP,cE,zR,trivial⟩ Tryz.func109 .no
theorem vT:FOk Tryz.prog 51 oH:=fk [(108,Eb),(109,oG)] ⟨MX,vS,trivial⟩ Tryz.func51 .no
theorem lT:FOk Tryz.prog 52 je:=fk [(50,lq)] ⟨pC,trivial⟩ Tryz.func52 .no
theorem fT:FOk Tryz.prog 110 cO:=fk [] trivial Tryz.func110 (.two .no (.two (.two .no (.loop [.slot 8 (.num .i64)] .no)) .no))
theorem B2:FOk Tryz.prog 111 sY:=fk [] trivial Tryz.func111 .no
end R
namespace R
open Go.RowKit
open D
theorem Fu:FOk Tryz.prog 54 wW:=fk [(110,cO),(111,sY)] ⟨fT,B2,trivial⟩ Tryz.func54 .no
theorem tE:FOk Tryz.prog 112 mV:=Fi Fk (enters_of Tryz.func112 (by kernel_rfl) rfl)
theorem zS:FOk Tryz.prog 195 rI:=Tc Lx (enters_of Tryz.func195 (by kernel_rfl) rfl)
theorem xi:FOk Tryz.prog 131 rk:=fk [(195,rI)] ⟨zS,trivial⟩ Tryz.func131 .no
theorem vf:FOk Tryz.prog 193 pL:=fk [(131,rk),(161,ui)] ⟨xi,yr,trivial⟩ Tryz.func193 .no
theorem zT:FOk Tryz.prog 194 rJ:=Td Te PS 9 (enters_of Tryz.func194 (by kernel_rfl) rfl)
theorem tF:FOk Tryz.prog 130 oJ:=fk [(193,pL),(194,rJ)] ⟨vf,zT,trivial⟩ Tryz.func130 (.two .no (.two .no (.two .no (.two (.two .no (.loop [.slot 3 (.own 9 y9),.slot 15 (.num .i64)] (.two .no (.two .no (.two (.atX [.slot 3 (.own 9 y9)] .no) .no))))) .no))))
theorem H5:FOk Tryz.prog 132 zm:=fk [] trivial Tryz.func132 (.two .no (.two .no (.two (.two .no (.loop [.slot 3 (.num .i64),.slot 4 (.num .i64)] .no)) .no)))
theorem rV:FOk Tryz.prog 73 ni:=fk [(53,jd),(130,oJ),(131,rk),(132,zm)] ⟨ko,tF,xi,H5,trivial⟩ Tryz.func73 .no
theorem qx:FOk Tryz.prog 171 lS:=PP PR (by kernel_rfl) (by kernel_rfl) (enters_of Tryz.func171 (by kernel_rfl) rfl)
theorem B3 (n a b:Int) (w:World):Calls Tryz.prog 53 #[.int .i64 n,.int .i64 a,.int .i64 b] w fun e w'=>e= .returned (.bool (decide (a<=n/\n<=b)))/\w'=w:=by
 by_cases h:a<=n
 ·go_enter Tryz.func53,Tryz.ntmps53
  go_wp2
  go_ret
  simp[h]
 ·go_enter Tryz.func53,Tryz.ntmps53
  go_wp2
  go_ret
  simp
  try (intro k;omega)
theorem JH (s:ByteArray) (r:Int×Bool) (w:World) (hr:sF s=some r) (hL:LayW Tryz.prog w):Calls Tryz.prog 172 #[.string s] w fun e w'=>e= .returned (.tuple #[.int .i64 r.1,.bool r.2])/\Below w.heap.size w w':=by
 unfold sF at hr
 by_cases h10:10<s.size
 ·rw[if_pos h10] at hr
  obtain rfl:=ae hr
  go_enter Tryz.func172,Tryz.ntmps172
  go_wp2
  go_ret2
  exact ⟨rfl,Below.refl _ _⟩
 ·rw[if_neg h10] at hr
  have h18:s.size<=18:=by omega
  cases ha:Lib.atoi s.data.toList with
  | none =>
   rw[ha] at hr
   obtain rfl:=ae hr
   obtain ⟨tp,p,hv⟩:=hL.syn
   have hcon:=Any.strconv_Atoi_err_var Ly s h18 ha tp p w hv
   go_enter Tryz.func172,Tryz.ntmps172
   go_wp2_with (go_at_call 226;refine hcon.mono ?_;rintro e w' ⟨N,rfl,hN,hh,hb⟩)
   go_ret2
   exact ⟨rfl,hb⟩
  | some n =>
   rw[ha] at hr
   have hB:=Lib.atoi_bound ha (by simpa using h18)
   have hA:=Any.strconv_Atoi { Ly with } s n h18 ha w
   have hI:=fun t=>Any.strconv_Itoa Lx n (by omega) (by omega) (Lib.bytesWorld w 5 t) (Lib.bytesWorld_var w 5 t hL.tab)
   have hz: ∀t k os,Below w.heap.size w (Go.Sort.grow ((Lib.bytesWorld w 5 t).drewN k) os):=fun t k os=>by
    have h1:=Lib.bytesWorld_below w 5 t
    exact ⟨h1.os,h1.tape,h1.output,by have:=h1.size;simp only[Go.Sort.grow,Array.size_append];exact Nat.le_trans this (Nat.le_add_right _ _),fun b hb=>(Go.Sort.heap_grow_old ((Lib.bytesWorld w 5 t).drewN k) os (aL hb h1.size:b<((Lib.bytesWorld w 5 t).drewN k).heap.size)).trans (h1.block b hb)⟩
   replace hr:(if (⟨(Lib.itoa n).toArray⟩:ByteArray)=s/\ -999999999<=n/\n<=999999999 then some (n,true) else some (0,false))=some r:=hr
   generalize (⟨(Lib.itoa n).toArray⟩:ByteArray)=q at hr hI
   by_cases e1:q=s
   ·subst e1
    by_cases e2: -999999999<=n/\n<=999999999
    ·rw[if_pos ⟨rfl,e2.1,e2.2⟩] at hr
     obtain rfl:=ae hr
     go_enter Tryz.func172,Tryz.ntmps172
     go_wp2_with (first | (go_at_call 226;refine hA.mono ?_;rintro e w' ⟨rfl,t,rfl⟩) | (go_at_call 195;refine (hI _).mono ?_;rintro e w' ⟨rfl,k,os,rfl⟩) | (go_at_call 53;refine (B3 _ _ _ _).mono ?_;rintro e w' ⟨rfl,rfl⟩))
     go_ret2
     exact ⟨rfl,hz _ _ _⟩
    ·rw[if_neg fun k=>e2 k.2] at hr
     obtain rfl:=ae hr
     go_enter Tryz.func172,Tryz.ntmps172
     go_wp2_with (first | (go_at_call 226;refine hA.mono ?_;rintro e w' ⟨rfl,t,rfl⟩) | (go_at_call 195;refine (hI _).mono ?_;rintro e w' ⟨rfl,k,os,rfl⟩) | (go_at_call 53;refine (B3 _ _ _ _).mono ?_;rintro e w' ⟨rfl,rfl⟩))
     go_ret2
     exact ⟨rfl,hz _ _ _⟩
   ·rw[if_neg fun k=>e1 k.1] at hr
    obtain rfl:=ae hr
    have e2: ¬q.toList=s.toList:=fun k=>e1 (Go.WideShapes.bytes_inj (by rw[<-ByteArray.toList_eq,<-ByteArray.toList_eq];exact k))
    go_enter Tryz.func172,Tryz.ntmps172
    go_wp2_with (first | (go_at_call 226;refine hA.mono ?_;rintro e w' ⟨rfl,t,rfl⟩) | (go_at_call 195;refine (hI _).mono ?_;rintro e w' ⟨rfl,k,os,rfl⟩) | (go_at_call 53;refine (B3 _ _ _ _).mono ?_;rintro e w' ⟨rfl,rfl⟩))
    go_ret2
    exact ⟨rfl,hz _ _ _⟩
theorem zB:FOk Tryz.prog 172 sZ:=PQ (enters_of Tryz.func172 (by kernel_rfl) rfl) JH
theorem B4:FOk Tryz.prog 270 ta:=Xi Xk (by kernel_rfl) (enters_of Tryz.func270 (by kernel_rfl) rfl)
theorem Fv:FOk Tryz.prog 227 wX:=fk [(172,sZ),(193,pL),(270,ta)] ⟨zB,vf,B4,trivial⟩ Tryz.func227 .no
theorem C5:FOk Tryz.prog 173 uO:=fk [(130,oJ),(171,lS),(227,wX)] ⟨tF,qx,Fv,trivial⟩ Tryz.func173 (.two .no (.two .no (.two .no (.two (.two .no (.loop [.slot 16 (.num .i64),.box 4 [(.own 170 (.prod y4 vH))]] .no)) .no))))
theorem zU:FOk Tryz.prog 113 rK:=fk [(73,ni),(171,lS),(172,sZ),(173,uO)] ⟨rV,qx,zB,C5,trivial⟩ Tryz.func113 .no
theorem JI:FOk Tryz.prog 55 BA:=Lw (ps:=[.rd y9]) (A:=y91) (E:=73) (t:=y73) (B:=y3) (m:=m_i_ScanLog) (fk [(112,mV),(113,rK)] ⟨tE,zU,trivial⟩ Tryz.func55 (.two .no (.two .no (.two .no (.two .no (.two (.loop [.slot 5 (.own 3 y3),.slot 6 (.own 73 y73),.slot 7 (.num .i64)] .no) .no))))))
theorem yx:FOk Tryz.prog 14 ql:=fk [(50,lq),(51,oH),(52,je),(53,jd),(54,wW),(55,BA)] ⟨pC,vT,lT,ko,Fu,JI,trivial⟩ Tryz.func14 (.two .no (.two .no (.two .no (.two (.two .no (.loop [.slot 37 (.num .i64)] .no)) .no))))
end R
namespace R
open Go.RowKit
open D
theorem Ei:FOk Tryz.prog 228 yh:=fk [] trivial Tryz.func228 (.two .no (.two .no (.two (.two .no (.loop [.slot 5 (.num .i64)] .no)) .no)))
theorem Ej:FOk Tryz.prog 205 yi:=fk [] trivial Tryz.func205 .no
theorem JJ:FOk Tryz.prog 229 BB:=fk [(205,yi)] ⟨Ej,trivial⟩ Tryz.func229 (.two .no (.two .no (.two (.two .no (.loop [.slot 5 (.num .i64)] .no)) .no)))
theorem JK:FOk Tryz.prog 174 BC:=fk [(228,yh),(229,BB)] ⟨Ei,JJ,trivial⟩ Tryz.func174 .no
theorem H6:FOk Tryz.prog 114 zn:=fk [(174,BC)] ⟨JK,trivial⟩ Tryz.func114 (.two .no (.two .no (.two (.two .no (.loop [.slot 5 (.num .i64)] .no)) .no)))
theorem Fw:FOk Tryz.prog 56 wY:=fk [(114,zn)] ⟨H6,trivial⟩ Tryz.func56 .no
theorem JL:FOk Tryz.prog 230 BD:=fk [] trivial Tryz.func230 (.two .no (.two .no (.two (.two .no (.loop [.slot 5 (.num .i64)] .no)) .no)))
theorem JM:FOk Tryz.prog 231 BE:=fk [(228,yh)] ⟨Ei,trivial⟩ Tryz.func231 (.two .no (.two .no (.two (.two .no (.loop [.slot 5 (.num .i64)] .no)) .no)))
theorem B5:FOk Tryz.prog 175 tc:=fk [(230,BD),(231,BE)] ⟨JL,JM,trivial⟩ Tryz.func175 .no
theorem zV:FOk Tryz.prog 115 rL:=fk [(175,tc)] ⟨B5,trivial⟩ Tryz.func115 (.two .no (.two .no (.two (.two .no (.loop [.slot 5 (.num .i64)] .no)) .no)))
theorem JN:FOk Tryz.prog 141 BF:=fk [] trivial Tryz.func141 .no
theorem H7:FOk Tryz.prog 86 zo:=fk [(141,BF)] ⟨JN,trivial⟩ Tryz.func86 (.two .no (.two .no (.two (.two .no (.loop [.slot 5 (.num .i64)] .no)) .no)))
theorem MY:FOk Tryz.prog 32 Ec:=fk [(86,zo)] ⟨H7,trivial⟩ Tryz.func32 .no
theorem zW:FOk Tryz.prog 176 rM:=fk [(32,Ec)] ⟨MY,trivial⟩ Tryz.func176 .no
theorem yy:FOk Tryz.prog 116 qm:=fk [(176,rM)] ⟨zW,trivial⟩ Tryz.func116 (.two .no (.two .no (.two (.two .no (.loop [.slot 5 (.num .i64)] .no)) .no)))
theorem C6:FOk Tryz.prog 57 uP:=fk [(115,rL),(116,qm)] ⟨zV,yy,trivial⟩ Tryz.func57 .no
theorem zX:FOk Tryz.prog 117 rN:=fk [] trivial Tryz.func117 .no
end R
namespace R
open Go.RowKit
open D
theorem yz:FOk Tryz.prog 58 qn:=fk [(117,rN)] ⟨zX,trivial⟩ Tryz.func58 (.two .no (.two .no (.two (.two .no (.loop [.slot 5 (.num .i64)] .no)) .no)))
theorem H8:FOk Tryz.prog 15 zp:=fk [(56,wY),(57,uP),(58,qn)] ⟨Fw,C6,yz,trivial⟩ Tryz.func15 .no
theorem qy:FOk Tryz.prog 180 nX:=fk [] trivial Tryz.func180 .no
theorem Ek:FOk Tryz.prog 119 yj:=fk [(180,nX)] ⟨qy,trivial⟩ Tryz.func119 (.two .no (.two .no (.two (.two .no (.loop [.slot 4 (.num .i64),.box 3 [(.num .i64),(.own 126 ug)]] .no)) .no)))
theorem JO:FOk Tryz.prog 181 BG:=fk [] trivial Tryz.func181 (.two .no (.two .no (.two (.two .no (.loop [.slot 4 (.num .i64),.box 3 [(.num .i64),(.own 4 y4),(.own 91 y91)]] .no)) .no)))
theorem JP:FOk Tryz.prog 120 BH:=fk [(155,uh),(181,BG)] ⟨yn,JO,trivial⟩ Tryz.func120 (.two .no (.two .no (.two (.two .no (.loop [.slot 4 (.num .i64),.box 3 [(.own 189 mS),(.own 137 CS)]] .no)) (.two (.two .no (.loop [.slot 5 (.num .i64),.box 3 [(.own 189 mS),(.own 137 CS)]] .no)) .no))))
theorem JQ:FOk Tryz.prog 61 BI:=fk [(119,yj),(120,BH)] ⟨Ek,JP,trivial⟩ Tryz.func61 .no
theorem zC:FOk Tryz.prog 233 tf:=fk [] trivial Tryz.func233 .no
theorem nT:FOk Tryz.prog 191 lu:=fk [(233,tf)] ⟨zC,trivial⟩ Tryz.func191 .no
theorem tG:FOk Tryz.prog 127 oK:=fk [(191,lu)] ⟨nT,trivial⟩ Tryz.func127 (.two .no (.two .no (.two (.two .no (.loop [.slot 12 (.num .i64),.box 3 [(.num .i64),(.own 126 ug)]] .no)) .no)))
theorem yA:FOk Tryz.prog 192 qo:=fk [(233,tf)] ⟨zC,trivial⟩ Tryz.func192 (.two .no (.two .no (.two (.two .no (.loop [.slot 16 (.num .i64),.box 3 [(.num .i64),(.own 4 y4),(.own 91 y91)]] .no)) .no)))
end R
namespace R
open Go.RowKit
open D
theorem zY:FOk Tryz.prog 128 rO:=fk [(166,sX),(192,qo)] ⟨zA,yA,trivial⟩ Tryz.func128 (.two .no (.two .no (.two (.two .no (.loop [.slot 12 (.num .i64),.box 3 [(.own 189 mS),(.own 137 CS)]] .no)) (.two (.two .no (.loop [.slot 27 (.num .i64),.box 3 [(.own 189 mS),(.own 137 CS)]] .no)) .no))))
theorem C7:FOk Tryz.prog 71 uQ:=fk [(127,oK),(128,rO)] ⟨tG,zY,trivial⟩ Tryz.func71 .no
theorem zD:FOk Tryz.prog 182 tg:=fk [] trivial Tryz.func182 (.two .no (.two (.two .no (.loop [.par 0 [] 3 y3,.slot 1 (.num .i64),.slot 5 (.num .i64)] .no)) .no))
theorem Fx:FOk Tryz.prog 183 wZ:=fk [] trivial Tryz.func183 (.two .no (.two (.two .no (.loop [.par 0 [] 168 vH,.slot 1 (.num .i64),.slot 5 (.num .i64)] .no)) .no))
theorem C8:FOk Tryz.prog 121 uR:=fk [(182,tg),(183,wZ)] ⟨zD,Fx,trivial⟩ Tryz.func121 (.two .no (.two (.two .no (.loop [.par 0 [] 126 ug,.slot 1 (.num .i64),.slot 5 (.num .i64)] .no)) .no))
theorem B6:FOk Tryz.prog 64 th:=fk [(121,uR)] ⟨C8,trivial⟩ Tryz.func64 .no
theorem Fy:FOk Tryz.prog 184 w4:=fk [] trivial Tryz.func184 (.two .no (.two (.two .no (.loop [.par 0 [] 4 y4,.slot 1 (.num .i64),.slot 5 (.num .i64)] .no)) .no))
theorem Fz:FOk Tryz.prog 185 w5:=fk [(182,tg)] ⟨zD,trivial⟩ Tryz.func185 (.two .no (.two (.two .no (.loop [.par 0 [] 91 y91,.slot 1 (.num .i64),.slot 5 (.num .i64)] .no)) .no))
theorem xj:FOk Tryz.prog 122 pA:=fk [(184,w4),(185,w5)] ⟨Fy,Fz,trivial⟩ Tryz.func122 (.two .no (.two (.two .no (.loop [.par 0 [] 189 mS,.slot 1 (.num .i64),.slot 5 (.num .i64)] .no)) .no))
theorem C9:FOk Tryz.prog 87 uS:=fk [] trivial Tryz.func87 (.two .no (.two (.two .no (.loop [.par 0 [] 161 y6,.slot 1 (.num .i64),.slot 5 (.num .i64)] .no)) .no))
theorem vU:FOk Tryz.prog 123 oL:=fk [(87,uS)] ⟨C9,trivial⟩ Tryz.func123 (.two .no (.two (.two .no (.loop [.par 0 [] 137 CS,.slot 1 (.num .i64),.slot 5 (.num .i64)] .no)) .no))
theorem zZ:FOk Tryz.prog 65 rP:=fk [(122,pA),(123,oL)] ⟨xj,vU,trivial⟩ Tryz.func65 .no
theorem vV:FOk Tryz.prog 66 oM:=fk [] trivial Tryz.func66 (.two .no (.two (.two .no (.loop [.par 0 [] 88 y88,.slot 1 (.num .i64),.slot 5 (.num .i64)] .no)) .no))
end R
namespace R
open Go.RowKit
open D
theorem Da:FOk Tryz.prog 20 uT:=fk [(64,th),(65,rP),(66,oM)] ⟨B6,zZ,vV,trivial⟩ Tryz.func20 .no
theorem zE:FOk Tryz.prog 186 tj:=fk [] trivial Tryz.func186 (.two .no (.two (.two .no (.loop [.slot 1 (.num .i64),.slot 5 (.num .i64)] .no)) .no))
theorem FA:FOk Tryz.prog 187 w6:=fk [] trivial Tryz.func187 (.two .no (.two (.two .no (.loop [.slot 1 (.num .i64),.slot 5 (.num .i64)] .no)) .no))
theorem Db:FOk Tryz.prog 124 uU:=fk [(186,tj),(187,w6)] ⟨zE,FA,trivial⟩ Tryz.func124 (.two .no (.two (.two .no (.loop [.slot 1 (.num .i64),.slot 5 (.num .i64)] .no)) .no))
theorem B7:FOk Tryz.prog 67 tl:=fk [(124,uU)] ⟨Db,trivial⟩ Tryz.func67 .no
theorem FC:FOk Tryz.prog 188 w7:=fk [] trivial Tryz.func188 (.two .no (.two (.two .no (.loop [.slot 1 (.num .i64),.slot 5 (.num .i64)] .no)) .no))
theorem FD:FOk Tryz.prog 189 w8:=fk [(186,tj)] ⟨zE,trivial⟩ Tryz.func189 (.two .no (.two (.two .no (.loop [.slot 1 (.num .i64),.slot 5 (.num .i64)] .no)) .no))
theorem xk:FOk Tryz.prog 125 pB:=fk [(188,w7),(189,w8)] ⟨FC,FD,trivial⟩ Tryz.func125 (.two .no (.two (.two .no (.loop [.slot 1 (.num .i64),.slot 5 (.num .i64)] .no)) .no))
theorem Dc:FOk Tryz.prog 190 uV:=fk [] trivial Tryz.func190 (.two .no (.two (.two .no (.loop [.slot 1 (.num .i64),.slot 5 (.num .i64)] .no)) .no))
theorem vW:FOk Tryz.prog 126 oN:=fk [(190,uV)] ⟨Dc,trivial⟩ Tryz.func126 (.two .no (.two (.two .no (.loop [.slot 1 (.num .i64),.slot 5 (.num .i64)] .no)) .no))
theorem Aa:FOk Tryz.prog 68 rQ:=fk [(125,pB),(126,oN)] ⟨xk,vW,trivial⟩ Tryz.func68 .no
theorem vX:FOk Tryz.prog 69 oO:=fk [] trivial Tryz.func69 (.two .no (.two (.two .no (.loop [.slot 1 (.num .i64),.slot 5 (.num .i64)] .no)) .no))
theorem Dd:FOk Tryz.prog 21 uW:=fk [(67,tl),(68,rQ),(69,oO)] ⟨B7,Aa,vX,trivial⟩ Tryz.func21 .no
end R
namespace R
open Go.RowKit
open D
end R
namespace R
open Go.RowKit
open D
theorem FE:FOk Tryz.prog 88 w9:=fk [] trivial Tryz.func88 .no
theorem JR:FOk Tryz.prog 34 BJ:=fk [(88,w9)] ⟨FE,trivial⟩ Tryz.func34 .no
theorem rp:FOk Tryz.prog 241 nP:=fk [] trivial Tryz.func241 (.two .no (.two (.two .no (.loop [.slot 5 (.num .i64)] .no)) .no))
theorem De:FOk Tryz.prog 240 uX:=fk [(98,gG),(152,yd),(180,nX),(241,nP)] ⟨jX,Ee,qy,rp,trivial⟩ Tryz.func240 (.two .no (.two .no (.two .no (.two (.loop [.slot 6 (.num .i64)] .no) .no))))
theorem Df:FOk Tryz.prog 242 uY:=fk [(98,gG),(180,nX),(241,nP)] ⟨jX,qy,rp,trivial⟩ Tryz.func242 .no
theorem JS:FOk Tryz.prog 199 BK:=fk [(180,nX),(240,uX),(241,nP),(242,uY)] ⟨qy,De,rp,Df,trivial⟩ Tryz.func199 (.two .no (.two .no (.two (.two .no (.loop [.slot 7 (.num .i64),.box 6 [(.own 3 y3),(.own 168 vH)]] (.two .no (.joinX [.box 6 [(.own 3 y3),(.own 168 vH)]] .no .no)))) .no)))
theorem Dg:FOk Tryz.prog 142 uZ:=fk [(98,gG),(180,nX),(199,BK)] ⟨jX,qy,JS,trivial⟩ Tryz.func142 .no
theorem B8:FOk Tryz.prog 89 tm:=fk [(43,gW),(63,fR),(119,yj),(142,uZ)] ⟨lx,jf,Ek,Dg,trivial⟩ Tryz.func89 (.two .no (.two .no (.two .no (.two .no (.two .no (.two .no (.two (.two .no (.at [.box 6 [(.num .i64),(.own 126 ug)]] .no)) .no))))))) (an:=[(48,.bool)])
theorem B9:FOk Tryz.prog 35 tn:=fk [(12,qf),(61,BI),(63,fR),(89,tm),(90,ng)] ⟨yo,JQ,jf,B8,rS,trivial⟩ Tryz.func35 .no
theorem H9:FOk Tryz.prog 146 zq:=fk [(201,yg)] ⟨Eh,trivial⟩ Tryz.func146 .no
end R
namespace R
open Go.RowKit
open D
theorem FF:FOk Tryz.prog 91 xa:=fk [(146,zq)] ⟨H9,trivial⟩ Tryz.func91 (.two .no (.two .no (.two (.two .no (.loop [.row 3 170 Xl,.slot 4 (.num .i64)] .no)) .no)))
theorem JT:FOk Tryz.prog 36 BL:=fk [(91,xa)] ⟨FF,trivial⟩ Tryz.func36 .no
theorem lE:FOk Tryz.prog 277 fp:=fk [] trivial Tryz.func277 (.two .no (.two (.two .no (.loop [.slot 8 (.num .i64)] .no)) .no))
theorem Ca:FOk Tryz.prog 278 tq:=fk [] trivial Tryz.func278 .no
theorem xl:FOk Tryz.prog 244 rl:=fk [(277,fp),(278,tq)] ⟨lE,Ca,trivial⟩ Tryz.func244 .no
theorem nk:FOk Tryz.prog 245 gI:=Xg (n:=3) (z:=(⟨.int .i64 0,rfl⟩,⟨.int .i64 0,rfl⟩,⟨.int .i64 0,rfl⟩,⟨.int .i64 0,rfl⟩)) rfl rfl (fok (V:=⟨tt,[(279,⟨[],[],none,some (168,0)⟩)],[(12,.raw),(34,.raw),(43,.raw),(50,.raw),(53,.raw),(60,.str),(66,.raw),(73,.raw),(76,.raw),(80,.raw),(86,.raw),(91,.raw)],95,[]⟩) MP ⟨YT (aae (fn:=Tryz.f279) (tS:=124) (tR:=4) (E:=168) Tryz.func279 (by kernel_rfl) (by kernel_rfl) (by kernel_rfl) (by kernel_rfl) Tryz.underlying124 (TTok.get MP rfl).ti),trivial⟩ mixed Tryz.func245 rfl rfl (enters_of Tryz.func245 (by kernel_rfl) rfl) rfl (bg rfl) rfl .no (fun d=>by kernel_rfl))
theorem Dh:FOk Tryz.prog 202 u7:=fk [(106,gH),(161,ui),(191,lu),(244,rl),(245,gI)] ⟨jY,yr,nT,xl,nk,trivial⟩ Tryz.func202 (.two .no (.two .no (.two .no (.two .no (.two (.loop [.slot 7 (.num .i64)] .no) .no)))))
theorem nU:FOk Tryz.prog 246 gY:=fk [] trivial Tryz.func246 (.two .no (.two (.two .no (.loop [.slot 8 (.num .i64)] .no)) .no))
theorem lU:FOk Tryz.prog 203 fS:=fk [(246,gY)] ⟨nU,trivial⟩ Tryz.func203 .no
theorem nl:FOk Tryz.prog 247 gJ:=Xd (n:=3) (z:=(⟨.int .i64 0,rfl⟩,⟨.int .i64 0,rfl⟩,⟨.int .i64 0,rfl⟩,⟨.int .i64 0,rfl⟩)) rfl rfl (fok (V:=⟨tt,[],[(13,.raw),(22,.raw),(25,.raw),(31,.raw)],33,[]⟩) MP trivial mixed Tryz.func247 rfl rfl (enters_of Tryz.func247 (by kernel_rfl) rfl) rfl (bg rfl) rfl .no (fun d=>by kernel_rfl))
theorem Di:FOk Tryz.prog 204 u9:=fk [(106,gH),(191,lu),(244,rl),(247,gJ)] ⟨jY,nT,xl,nl,trivial⟩ Tryz.func204 .no
theorem Dj:FOk Tryz.prog 147 vc:=fk [(106,gH),(191,lu),(202,u7),(203,fS),(204,u9)] ⟨jY,nT,Dh,lU,Di,trivial⟩ Tryz.func147 (.two .no (.two .no (.two .no (.two (.two .no (.loop [.slot 25 (.num .i64),.box 6 [(.own 3 y3),(.own 168 vH)]] (.two .no (.two .no (.two (.two .no (.two .no (.join [.slot 9 .boo,.box 6 [(.own 3 y3),(.own 168 vH)]] .no .no))) .no))))) .no))))
theorem Cb:FOk Tryz.prog 92 tu:=fk [(52,je),(127,oK),(147,vc)] ⟨lT,tG,Dj,trivial⟩ Tryz.func92 (.two .no (.two .no (.two .no (.two .no (.two .no (.two .no (.two .no (.two (.two .no (.at [.box 6 [(.num .i64),(.own 126 ug)]] .no)) .no)))))))) (an:=[(49,.bool)])
theorem Cc:FOk Tryz.prog 37 tv:=fk [(14,ql),(52,je),(71,uQ),(73,ni),(92,tu)] ⟨yx,lT,C7,rV,Cb,trivial⟩ Tryz.func37 .no
theorem Ia:FOk Tryz.prog 148 zr:=fk [(205,yi)] ⟨Ej,trivial⟩ Tryz.func148 .no
theorem FG:FOk Tryz.prog 93 xb:=fk [(148,zr)] ⟨Ia,trivial⟩ Tryz.func93 (.two .no (.two .no (.two (.two .no (.loop [.slot 5 (.num .i64)] .no)) .no)))
theorem JU:FOk Tryz.prog 38 BM:=fk [(93,xb)] ⟨FG,trivial⟩ Tryz.func38 .no
end R
namespace R
open Go.RowKit
open D
theorem Cd:FOk Tryz.prog 94 tw:=fk [] trivial Tryz.func94 (.two .no (.two (.two .no (.loop [.par 0 [] 170 Xl,.slot 1 (.num .i64),.slot 5 (.num .i64)] .no)) .no))
theorem FH:FOk Tryz.prog 39 xc:=fk [(94,tw)] ⟨Cd,trivial⟩ Tryz.func39 .no
theorem sg:FOk Tryz.prog 10 sd:=fk [(11,za),(13,zj),(15,zp),(20,uT),(21,uW),(34,BJ),(35,tn),(36,BL),(37,tv),(38,BM),(39,xc)] ⟨HV,H3,H8,Da,Dd,JR,B9,JT,Cc,JU,FH,trivial⟩ Tryz.func10 .no
end R
namespace D
open Go.RowKit
end D
namespace D
open Go.RowKit
end D
namespace D
open Go.RowKit
end D
namespace D
open Go.RowKit
end D
namespace D
open Go.RowKit
end D
namespace D
open Go.RowKit
end D
namespace D
open Go.RowKit
end D
namespace D
open Go.RowKit
theorem si (x0:Yq8×Yq6×Yq7×ByteArray) (x1:Yq9) (r:Bool) (hm:eG x0 x1=some r) {I:Hp} {w0:World} (v0_0:Value) (v0_1:Value) (v0_2:Value) (v0_3:Value) (v1_0:Value) (r0_0:(ah 179 (aG (ah 3 aX) (ah 172 (aG aX (aG aX (aG aX aX)))))).rd I [v0_0] x0.1.2) (r0_1:(ah 184 (aG aX (aG (ah 4 kB) (ah 91 (ah 3 aX))))).rd I [v0_1] x0.2.1.1) (r0_2:(ah 187 (aG aX (aG (ah 163 (aG aX (aG aX (aG aX aX)))) aX))).rd I [v0_2] x0.2.1.2) (r0_3:(ah 133 (aG aX (aG aX aX))).rd I [v0_3] x0.2.2.1) (r1_0:(ah 174 (aG kB (aG aX (aG aX (aG aX aX))))).rd I [v1_0] x1) (hL:Lay Tryz.prog I):Con Tryz.prog 10 #[.agg #[.int .i64 x0.1.1,v0_0,v0_1,v0_2,v0_3,.string x0.2.2.2],.agg #[v1_0]] I w0 [] (fun v=>v= .bool r) (fun _=>[]):=fun w C hs =>
 ((R.sg).con w0 I [.agg #[.int .i64 x0.1.1,v0_0,v0_1,v0_2,v0_3,.string x0.2.2.2],.agg #[v1_0]] (x0,(x1,())) r hL ⟨_,_,rfl,⟨[.int .i64 x0.1.1,v0_0,v0_1,v0_2,v0_3,.string x0.2.2.2],rfl,⟨_,_,rfl,⟨_,_,rfl,rfl,r0_0⟩,⟨_,_,rfl,⟨_,_,rfl,r0_1,r0_2⟩,⟨_,_,rfl,r0_3,rfl⟩⟩⟩⟩,⟨_,_,rfl,⟨[v1_0],rfl,r1_0⟩,rfl⟩⟩ hm w C hs).mono fun e w' ⟨v,he,_,hst⟩=>by
  obtain ⟨h1,h2⟩:=R.wA (h1:=fun _=>rfl) (show St I w0 w' (Ch.own R.Ty.bool.rep [v] r::C) from hst)
  exact ⟨v,he,(List.cons.inj h1).1,h2⟩
end D
namespace D
open Go.RowKit
def I64 (n:Int):Prop:= -9223372036854775808<=n/\n<=9223372036854775807
class Data (α:Type) where
 lim:α->Prop
 sm:α->Prop
instance:Data Int:=⟨I64,fun _=>True⟩
instance:Data Bool:=⟨fun _=>True,fun _=>True⟩
instance:Data ByteArray:=⟨fun s=>s.size<=9223372036854775807,fun s=>s.size<=1048576⟩
instance {α β:Type} [Data α] [Data β] :Data (α×β):=⟨fun x=>Data.lim x.1/\Data.lim x.2,fun x=>Data.sm x.1/\Data.sm x.2⟩
instance {α:Type} [Data α] :Data (List α):=⟨fun xs=>xs.length<=9223372036854775807/\ ∀x,x∈xs->Data.lim x,fun xs=>xs.length<=1048576/\ ∀x,x∈xs->Data.sm x⟩
structure Opens (P:Program) (t:TypeId) {α:Type} [Data α] (R:Rep α):Prop where
 out: ∀ {H:Type} (enc:TypeId×Value->H) (w:World) (fuel:Nat) (cs:List Value) (x:DataW H×List MemPlace),DataW.trod enc P w 0 (fun _=>true) true fuel t cs=some x-> ∃a:α,R.rd (hp w) cs a/\Data.lim a
theorem PU {P:Program} {t:TypeId} (h:P.underlying t=some (.int .i64)):Opens P t aX:=by
 constructor
 intro H enc w fuel cs x hx
 obtain ⟨n,rfl,-,hw⟩:=DataW.trod_int h hx
 refine ⟨n,rfl,show I64 n from ?_⟩
 simp[Lit.wf,IntKind.min,IntKind.max,IntKind.signed,IntKind.bits] at hw
 unfold I64
 omega
theorem MZ {P:Program} {t:TypeId} (h:P.underlying t=some .bool):Opens P t kB:=by
 constructor
 intro H enc w fuel cs x hx
 obtain ⟨n,rfl,-⟩:=DataW.trod_bool h hx
 exact ⟨n,rfl,trivial⟩
theorem Ib {P:Program} {t:TypeId} (h:P.underlying t=some .string):Opens P t Eu:=by
 constructor
 intro H enc w fuel cs x hx
 obtain ⟨n,rfl,-,hm⟩:=DataW.trod_string h hx
 exact ⟨n,rfl,show n.size<=_ by unfold maxLen at hm;omega⟩
theorem fh {P:Program} {t e:TypeId} {α:Type} [Data α] {R:Rep α} {E:TypeId} (h:P.underlying t=some (.slice e)) (hc:P.cellsOf e=R.size) (h0:0<R.size) (he:Opens P e R):Opens P t (ah E R):=by
 constructor
 intro H enc w fuel cs x hx
 rcases Go.Deep.open_slice h hx with ⟨rfl,-⟩ | ⟨a,len,cap,m,n,D,Pl,rfl,-,hl,hm,hmm,-,hel⟩
 ·exact ⟨[],⟨none,0,rfl,by simp,.inl rfl⟩,Nat.zero_le _,fun x hx=>by cases hx⟩
 have hlm:m=cap:=by simpa using hmm
 subst hlm
 rw[hc] at hel
 by_cases hz:len=0
 ·subst hz
  exact ⟨[],⟨some a,m,rfl,by simp,.inl rfl⟩,Nat.zero_le _,fun x hx=>by cases hx⟩
 ·have hone: ∀i,i<len-> ∃c:List Value,∃y:α,c.length=R.size/\(∀j,j<R.size->w.cell? ((a.add (i*R.size)).add j)=c[j]?)/\R.rd (hp w) c y/\Data.lim y:=by
   intro i hi
   obtain ⟨c,h1,h2⟩:=hel i (by omega)
   obtain ⟨-,h3,h4⟩:=World.cells?_some h1
   obtain ⟨y,hy⟩:=he.out enc w _ _ _ h2
   exact ⟨c,y,h3,h4,hy⟩
  obtain ⟨c0,y0,hc0,hr0,-⟩:=hone 0 (by omega)
  have h00:=hr0 0 h0
  have hsome: ∃v,c0[0]? =some v:=⟨_,List.getElem?_eq_getElem (by omega)⟩
  obtain ⟨v,hv⟩:=hsome
  rw[hv] at h00
  have ha:(a.add (0*R.size)).add 0=a:=by simp[Addr.add]
  rw[ha] at h00
  obtain ⟨b,off,spot⟩:=a
  have hb: ∃ccs T fr,w.heap[b]? =some (.cells ccs T fr)/\spot=none:=by
   simp only[World.cell?] at h00
   split at h00
   ·rename_i ccs T fr heq
    cases spot with
    | none=>exact ⟨ccs,T,fr,heq,rfl⟩
    | some s=>simp at h00
   ·simp at h00
  obtain ⟨ccs,T,fr,hh,rfl⟩:=hb
  have hadd: ∀i j,(Addr.add ⟨b,off,none⟩ i).add j=⟨b,off+i+j,none⟩:=by
   intro i j
   by_cases h1:i=0 <;> by_cases h2:j=0 <;> simp[Addr.add,h1,h2,Nat.add_assoc]
  haveI:Inhabited α:=⟨y0⟩
  obtain ⟨X,hX⟩:=Go.Deep.choose_lt (α:=α) (n:=len) (p:=fun i y=> ∃c:List Value,c.length=R.size/\(∀j,j<R.size->ccs.toList[off+i*R.size+j]? =c[j]?)/\R.rd (hp w) c y/\Data.lim y) (fun i hi=>by
   obtain ⟨c,y,h1,h2,h3⟩:=hone i hi
   refine ⟨y,c,h1,fun j hj=>?_,h3⟩
   have:=h2 j hj
   rw[hadd] at this
   simp only[World.cell?,hh] at this
   simpa using this)
  have hlen:((List.range len).map X).length=len:=by simp
  have hel2: ∀i y,((List.range len).map X)[i]? =some y->i<len/\y=X i:=fun i y hy=>by
   have hi:i<len:=by have:=(List.getElem?_eq_some_iff.1 hy).1;omega
   exact ⟨hi,by simpa [hi] using hy.symm⟩
  refine ⟨(List.range len).map X,⟨some ⟨b,off,none⟩,m,by rw[hlen],by rw[hlen];unfold maxLen at hm;unfold lim;omega,.inr ⟨b,off,ccs,T,fr,rfl,hh,fun i y hy=>?_⟩⟩,by rw[hlen];unfold maxLen at hm;omega,fun y hy=>?_⟩
  ·obtain ⟨hi,rfl⟩:=hel2 i y hy
   obtain ⟨c,e1,e2,e3,-⟩:=hX i hi
   exact ⟨c,e1,e2,e3⟩
  ·obtain ⟨i,hi,he⟩:=List.mem_iff_getElem?.1 hy |>.imp fun i hi=>hel2 i y hi
   obtain ⟨-,-,-,-,e4⟩:=hX i hi
   rw[he];exact e4
structure OpensFs (P:Program) (fs:List Field) (o:Nat) {α:Type} [Data α] (R:Rep α):Prop where
 out: ∀ {H:Type} (enc:TypeId×Value->H) (w:World) (fuel:Nat) (cs:List Value),cs.length=o+R.size->
  (∀f∈fs,∃x,DataW.trod enc P w 0 (fun _=>true) true fuel f.type ((cs.drop f.offset).take (P.cellsOf f.type))=some x)-> ∃a:α,R.rd (hp w) (cs.drop o) a/\Data.lim a
theorem eQ {P:Program} {f:Field} {o:Nat} {α:Type} [Data α] {R:Rep α} (ho:f.offset=o) (hc:P.cellsOf f.type=R.size) (h:Opens P f.type R):OpensFs P [f] o R:=by
 constructor
 intro H enc w fuel cs hl hx
 obtain ⟨x,hx⟩:=hx f (by simp)
 rw[ho,hc,List.take_of_length_le (by rw[aR];omega)] at hx
 exact h.out enc w _ _ _ hx
theorem cg {P:Program} {f:Field} {fs:List Field} {o:Nat} {α β:Type} [Data α] [Data β] {R:Rep α} {S:Rep β} (ho:f.offset=o) (hc:P.cellsOf f.type=R.size) (h:Opens P f.type R) (hs:OpensFs P fs (o+R.size) S):OpensFs P (f::fs) o (aG R S):=by
 constructor
 intro H enc w fuel cs hl hx
 have hl':cs.length=o+(R.size+S.size):=hl
 obtain ⟨b,hb,hlb⟩:=hs.out enc w fuel cs (by omega) (fun g hg=>hx g (by simp[hg]))
 obtain ⟨x,hx⟩:=hx f (by simp)
 rw[ho,hc] at hx
 obtain ⟨a,ha,hla⟩:=h.out enc w _ _ _ hx
 refine ⟨(a,b),⟨(cs.drop o).take R.size,cs.drop (o+R.size),?_,ha,hb⟩,hla,hlb⟩
 rw[<-List.drop_drop,List.take_append_drop]
theorem cZ {P:Program} {t:TypeId} {fs:Array Field} {α:Type} [Data α] {R:Rep α} (h:P.underlying t=some (.struct fs)) (hc:P.cellsOf t=R.size) (hf:OpensFs P fs.toList 0 R):Opens P t R:=by
 constructor
 intro H enc w fuel cs x hx
 obtain ⟨xs,n,-,-,hl,hn,hel⟩:=DataW.trod_struct h hx
 have:=hf.out enc w n cs (by omega) (fun f hm=>by
  obtain ⟨i,hi,rfl⟩:=List.getElem_of_mem hm
  have h1:fs[i]? =some fs.toList[i]:=by simp
  exact ⟨_,(hel i _ h1).trans (List.getElem?_eq_getElem (by simp at hi;omega))⟩)
 simpa using this
theorem St.below {w0 w:World} {cs:List Ch} (h:St (hp w0) w0 w cs):Below w0.heap.size w0 w:=by
 obtain ⟨⟨h1,h2,h3,h4⟩,h5,-⟩:=h
 refine ⟨h1,h2,h3,h4,fun b hb=>?_⟩
 have e:w0.heap[b]? =some w0.heap[b]:=Array.getElem?_eq_getElem hb
 rw[e];exact h5 b _ e
end D
namespace D
open Go.RowKit
theorem fj {n:Int} (h1: -9223372036854775808<=n) (h2:n<=9223372036854775807):IntKind.i64.wrap n=n:=by
 simp only[IntKind.wrap,IntKind.bits,IntKind.signed,Bool.true_and]
 split <;> rename_i h <;> simp at h <;> omega
theorem af {i:Nat} (h:i<9223372036854775807):IntKind.i64.wrap ((i:Int)+1)=((i+1:Nat):Int):=by
 rw[fj (by omega) (by omega)];rfl
theorem aB {α:Type} {xs:List α} {i:Nat} (h:i<xs.length):aQ xs (i:Int)=some (xs[i]):=by
 unfold aQ
 rw[if_pos (Int.natCast_nonneg _)]
 simp[h]
theorem bF {i n:Nat} (h:i<n):decide ((i:Int)<(n:Int))=true:=by simp[h]
theorem ba {n:Nat} :decide ((n:Int)<(n:Int))=false:=by simp
theorem dB (k:Nat) (h:k<=9223372036854775807):k<aV:=by unfold aV;omega
theorem vh {α:Type} {b n:Nat} {z:α} (h:n*b<=140737488355328):mkI b (n:Int) z=some (List.replicate n z):=by
 unfold mkI
 rw[if_pos ⟨Int.natCast_nonneg _,by simpa using h⟩];simp
theorem Ic {R S:Type} {f:S->Option (Out R S)} (inv:Nat->S) (N:Nat) (h: ∀i,i<N->f (inv i)=some (.nxt (inv (i+1)))): ∀(m i k:Nat),i+m=N->ax f (k+m) (inv i)=ax f k (inv N)
 | 0,i,k,e=>by rw[show i=N by omega];rfl
 | m+1,i,k,e=>by
  rw[<-Nat.add_assoc,ax,h i (by omega)]
  exact Ic inv N h m (i+1) k (by omega)
theorem Ie {R S:Type} {f:S->Option (Out R S)} (inv:Nat->S) (N:Nat) {s:S} (h: ∀i,i<N->f (inv i)=some (.nxt (inv (i+1)))) (he:f (inv N)=some (.brk s)) (hN:N<aV):ax f aV (inv 0)=some (.brk s):=by
 have e:aV=(aV - N - 1)+1+N:=by omega
 rw[e,Ic inv N h N 0 _ (by omega),ax,he]
theorem toL {R α:Type} {f:List α×Int->Option (Out R (List α×Int))} {z:α} (xs:List α) (hN:xs.length<=9223372036854775807)
  (hstep: ∀ys i (h:i<xs.length),ys.length=xs.length->f (ys,(i:Int))=some (.nxt (ys.set i xs[i],((i+1:Nat):Int)))) (hend: ∀ys,ys.length=xs.length->f (ys,(xs.length:Int))=some (.brk (ys,(xs.length:Int)))) :
  ax f aV (List.replicate xs.length z,0)=some (.brk (xs,(xs.length:Int))):=by
 have h0:(List.replicate xs.length z,(0:Int))=(fun i:Nat=>(xs.take i++(List.replicate xs.length z).drop i,(i:Int))) 0:=by simp
 rw[h0]
 refine Ie (fun i:Nat=>(xs.take i++(List.replicate xs.length z).drop i,(i:Int))) xs.length (fun i hi=>?_) ?_ (dB _ hN)
 ·have hl:(xs.take i++(List.replicate xs.length z).drop i).length=xs.length:=by
   rw[al,ay,aR,List.length_replicate];omega
  rw[hstep _ i hi hl]
  congr 3
  have ht:(xs.take i).length=i:=by rw[ay];omega
  rw[List.set_append_right _ _ (by omega),ht,Nat.sub_self,List.drop_eq_getElem_cons (by rw[List.length_replicate];exact hi),List.set_cons_zero,List.take_succ_eq_append_getElem hi,ai]
  rfl
 ·have:=hend xs rfl
  rw[List.take_of_length_le (aE _),List.drop_of_length_le (by rw[List.length_replicate];exact aE _),List.append_nil]
  exact this
def Gw {α:Type} [Data α] (m:α->Int->Option Int):Prop:= ∀x l,Data.lim x->0<=l->l<=1048576-> ∃r,m x l=some r/\(r<0\/(0<=r/\r<=l/\Data.sm x))
def CH {α:Type} [Data α] (m:α->Option α):Prop:= ∀x,Data.sm x->m x=some x
def CI {α:Type} [Data α] [DecidableEq α] (m:α->α->Option Bool):Prop:= ∀x y,Data.sm x->Data.sm y->m x y=some (decide (x=y))
theorem abe {α:Type} [Data α] {f:Int×Int->Option Ap } (xs:List α)
  (hstep: ∀i (h:i<xs.length) l,0<=l->l<=1048576-> ∃r,f (l,(i:Int))=some (if r<0 then .ret (-1) else .nxt (r,((i+1:Nat):Int)))/\(r<0\/(0<=r/\r<=l/\Data.sm xs[i])))
  (hend: ∀l,f (l,(xs.length:Int))=some (.brk (l,(xs.length:Int)))): ∀(m i k:Nat) (l:Int),i+m=xs.length->m<k->0<=l->l<=1048576->
   ax f k (l,(i:Int))=some (.ret (-1))\/ ∃r,ax f k (l,(i:Int))=some (.brk (r,(xs.length:Int)))/\0<=r/\r<=l/\ ∀j (h:j<xs.length),i<=j->Data.sm xs[j]
 | 0,i,k,l,e,hk,h0,h1=>by
  obtain ⟨k,rfl⟩: ∃q,k=q+1:=⟨k - 1,by omega⟩
  obtain rfl:i=xs.length:=by omega
  exact .inr ⟨l,by rw[ax,hend],h0,Int.le_refl _,fun j hj hi=>by omega⟩
 | m+1,i,k,l,e,hk,h0,h1=>by
  obtain ⟨k,rfl⟩: ∃q,k=q+1:=⟨k - 1,by omega⟩
  obtain ⟨r,e1,e2⟩:=hstep i (by omega) l h0 h1
  rw[ax,e1]
  rcases e2 with e2 | ⟨e2,e3,e4⟩
  ·rw[if_pos e2];exact .inl rfl
  ·rw[if_neg (by omega)]
   rcases abe xs hstep hend m (i+1) k r (by omega) (by omega) e2 (by omega) with h | ⟨q,g1,g2,g3,g4⟩
   ·exact .inl h
   ·refine .inr ⟨q,g1,g2,by omega,fun j hj hi=>?_⟩
    by_cases hji:j=i
    ·subst hji;exact e4
    ·exact g4 j hj (by omega)
theorem szL {α:Type} [Data α] {f:Int×Int->Option Ap } (xs:List α) {l:Int} (hN:xs.length<=9223372036854775807)
  (hstep: ∀i (h:i<xs.length) l,0<=l->l<=1048576-> ∃r,f (l,(i:Int))=some (if r<0 then .ret (-1) else .nxt (r,((i+1:Nat):Int)))/\(r<0\/(0<=r/\r<=l/\Data.sm xs[i])))
  (hend: ∀l,f (l,(xs.length:Int))=some (.brk (l,(xs.length:Int)))) (h0:0<=l) (h1:l<=1048576) :
  ∃r,(if decide (IntKind.i64.wrap (l - (xs.length:Int))<0) then (some (-1)) else (aN (ax f aV (IntKind.i64.wrap (l - (xs.length:Int)),0)) (fun r=>some r) (fun s4=>some s4.1)))=some r/\(r<0\/(0<=r/\r<=l/\Data.sm xs)):=by
 rw[fj (by omega) (by omega)]
 by_cases h:l - (xs.length:Int)<0
 ·exact ⟨-1,by rw[if_pos (decide_eq_true h)],.inl (by decide)⟩
 ·rw[if_neg (by simpa using h)]
  rcases abe xs hstep hend xs.length 0 aV (l - xs.length) (by omega) (dB _ hN) (by omega) (by omega) with e | ⟨r,e,g1,g2,g3⟩
  ·exact ⟨-1,by rw[show ((0:Int))=((0:Nat):Int) from rfl,e];rfl,.inl (by decide)⟩
  ·refine ⟨r,by rw[show ((0:Int))=((0:Nat):Int) from rfl,e];rfl,.inr ⟨g1,by omega,by omega,fun x hx=>?_⟩⟩
   obtain ⟨j,hj,rfl⟩:=List.getElem_of_mem hx
   exact g3 j hj (Nat.zero_le _)
theorem szF {α:Type} [Data α] (xs:List α) {l:Int} (hN:xs.length<=9223372036854775807) (hf: ∀x:α,Data.sm x) (h0:0<=l) (h1:l<=1048576) :
  ∃r,(if decide (IntKind.i64.wrap (l - (xs.length:Int))<0) then (some (-1)) else (some (IntKind.i64.wrap (l - (xs.length:Int)))))=some r/\(r<0\/(0<=r/\r<=l/\Data.sm xs)):=by
 rw[fj (by omega) (by omega)]
 by_cases h:l - (xs.length:Int)<0
 ·exact ⟨-1,by rw[if_pos (decide_eq_true h)],.inl (by decide)⟩
 ·exact ⟨_,by rw[if_neg (by simpa using h)],.inr ⟨by omega,by omega,by omega,fun x _=>hf x⟩⟩
theorem aax {α:Type} [DecidableEq α] {f:Int->Option (Out Bool Int)} (xs ys:List α) (hl:xs.length=ys.length)
  (hstep: ∀i (h:i<xs.length) (h':i<ys.length),f (i:Int)=some (if xs[i] =ys[i] then .nxt ((i+1:Nat):Int) else .ret false)) (hend:f (xs.length:Int)=some (.brk (xs.length:Int))): ∀(m i k:Nat),i+m=xs.length->m<k->
   ax f k (i:Int)=some (if xs.drop i=ys.drop i then .brk (xs.length:Int) else .ret false)
 | 0,i,k,e,hk=>by
  obtain ⟨k,rfl⟩: ∃q,k=q+1:=⟨k - 1,by omega⟩
  obtain rfl:i=xs.length:=by omega
  rw[ax,hend,List.drop_of_length_le (aE _),List.drop_of_length_le (by omega),if_pos rfl]
 | m+1,i,k,e,hk=>by
  obtain ⟨k,rfl⟩: ∃q,k=q+1:=⟨k - 1,by omega⟩
  have hi:i<xs.length:=by omega
  have hi':i<ys.length:=by omega
  have d1:=List.drop_eq_getElem_cons hi
  have d2:=List.drop_eq_getElem_cons hi'
  rw[ax,hstep i hi hi',d1,d2]
  by_cases h:xs[i] =ys[i]
  ·rw[if_pos h]
   simp only
   rw[aax xs ys hl hstep hend m (i+1) k (by omega) (by omega)]
   simp only[List.cons.injEq,h,true_and]
  ·rw[if_neg h]
   simp only[List.cons.injEq,h,false_and,if_false]
theorem eqL {α:Type} [DecidableEq α] {f:Int->Option (Out Bool Int)} (xs ys:List α) (hN:xs.length<=9223372036854775807)
  (hstep: ∀i (h:i<xs.length) (h':i<ys.length),f (i:Int)=some (if xs[i] =ys[i] then .nxt ((i+1:Nat):Int) else .ret false)) (hend:f (xs.length:Int)=some (.brk (xs.length:Int))) :
  (if (xs.length:Int) !=(ys.length:Int) then (some false) else (aN (ax f aV 0) (fun r=>some r) (fun s4=>some true)))=some (decide (xs=ys)):=by
 by_cases hl:xs.length=ys.length
 ·rw[if_neg (by rw[hl];simp),show ((0:Int))=((0:Nat):Int) from rfl,aax xs ys hl hstep hend xs.length 0 aV (by omega) (dB _ hN)]
  by_cases h:xs=ys
  ·subst h;simp[aN]
  ·simp[aN,h]
 ·have:xs≠ys:=fun e=>hl (by rw[e])
  rw[if_pos (by simp;omega)];simp[this]
theorem fb {α:Type} {c d:Prop} [Decidable c] [Decidable d] {a b:α} (h:c↔d):(if c then some a else some b)=some (if d then a else b):=by
 by_cases k:c
 ·rw[if_pos k,if_pos (h.1 k)]
 ·rw[if_neg k,if_neg (fun e=>k (h.2 e))]
theorem pM {α:Type} {c d:Prop} [Decidable c] [Decidable d] {a b:α} (h:c↔ ¬d):(if c then some b else some a)=some (if d then a else b):=by
 by_cases k:d
 ·rw[if_neg (fun e=>h.1 e k),if_pos k]
 ·rw[if_pos (h.2 k),if_neg k]
theorem eqB {α:Type} [DecidableEq α] {f:Int->Option (Out Bool Int)} {K:Option Bool} (xs ys:List α) (hN:xs.length<=9223372036854775807) (hl:xs.length=ys.length)
  (hstep: ∀i (h:i<xs.length) (h':i<ys.length),f (i:Int)=some (if xs[i] =ys[i] then .nxt ((i+1:Nat):Int) else .ret false)) (hend:f (xs.length:Int)=some (.brk (xs.length:Int))) :
  aN (ax f aV 0) (fun r=>some r) (fun s4=>K)=(if xs=ys then K else some false):=by
 rw[show ((0:Int))=((0:Nat):Int) from rfl,aax xs ys hl hstep hend xs.length 0 aV (by omega) (dB _ hN)]
 by_cases h:xs=ys
 ·subst h;simp[aN]
 ·simp[aN,h]
theorem Y0 {f:Int->Option (Out Int Int)} (xs ys:List Int)
  (hstep: ∀i (h:i<xs.length) (h':i<ys.length),f (i:Int)=some (if xs[i] < ys[i] then .ret (-1) else if xs[i] > ys[i] then .ret 1 else .nxt ((i+1:Nat):Int))) (hend: ∀i,xs.length<=i\/ys.length<=i->f (i:Int)=some (.brk (i:Int))): ∀(m i k:Nat),i+m=xs.length->m<k->
   (∃r,ax f k (i:Int)=some (.ret r)/\r≠0/\xs≠ys)\/ ∃s,ax f k (i:Int)=some (.brk s)/\(xs.length=ys.length->xs.drop i=ys.drop i)
 | 0,i,k,e,hk=>by
  obtain ⟨k,rfl⟩: ∃q,k=q+1:=⟨k - 1,by omega⟩
  exact .inr ⟨_,by rw[ax,hend i (.inl (by omega))],fun h=>by rw[List.drop_of_length_le (by omega),List.drop_of_length_le (by omega)]⟩
 | m+1,i,k,e,hk=>by
  obtain ⟨k,rfl⟩: ∃q,k=q+1:=⟨k - 1,by omega⟩
  have hi:i<xs.length:=by omega
  by_cases hi':i<ys.length
  ·have hne: ∀h:xs[i] ≠ys[i],xs≠ys:=fun h e=>h (by subst e;rfl)
   rw[ax,hstep i hi hi']
   by_cases h1:xs[i] < ys[i]
   ·rw[if_pos h1];exact .inl ⟨-1,rfl,by decide,hne (by omega)⟩
   ·rw[if_neg h1]
    by_cases h2:xs[i] > ys[i]
    ·rw[if_pos h2];exact .inl ⟨1,rfl,by decide,hne (by omega)⟩
    ·rw[if_neg h2]
     rcases Y0 xs ys hstep hend m (i+1) k (by omega) (by omega) with h | ⟨s,g1,g2⟩
     ·exact .inl h
     ·refine .inr ⟨s,g1,fun hl=>?_⟩
      have h3:xs[i] =ys[i]:=by omega
      rw[List.drop_eq_getElem_cons hi,List.drop_eq_getElem_cons hi',g2 hl,h3]
  ·exact .inr ⟨_,by rw[ax,hend i (.inr (by omega))],fun h=>by omega⟩
instance:LawfulBEq ByteArray where
 eq_of_beq {a b} h:=ByteArray.ext (eq_of_beq (show (a.data==b.data)=true from h))
 rfl {a}:=beq_self_eq_true a.data
theorem abf {α β γ δ:Type} {a b:α×β×γ×δ} :(a.1=b.1/\a.2.1=b.2.1/\a.2.2.1=b.2.2.1/\a.2.2.2=b.2.2.2)↔a=b:=by rw[Prod.ext_iff,Prod.ext_iff,Prod.ext_iff]
theorem di {α β:Type} (p:α×β):(p.1,p.2)=p:=rfl
theorem aC {α:Type} [Data α] {xs:List α} (h:Data.sm xs):xs.length<=1048576/\ ∀x,x∈xs->Data.sm x:=h
theorem eH {α:Type} [Data α] {xs:List α} (h:Data.lim xs):xs.length<=9223372036854775807/\ ∀x,x∈xs->Data.lim x:=h
end D
set_option synthInstance.maxSize 20000
set_option synthInstance.maxHeartbeats 2000000
namespace D
open Go.RowKit
theorem LB:Gw tY:=fun xs l hl h0 h1=>szF xs (eH hl).1 (fun _=>trivial) h0 h1
theorem PV:Gw vx:=fun xs l hl h0 h1=>szF xs (eH hl).1 (fun _=>⟨trivial,trivial,trivial,trivial⟩) h0 h1
theorem PW:Gw qP:=by
 intro x l hl h0 h1
 unfold qP
 try simp only[di]
 obtain ⟨r1,e1,k1⟩:=LB x.1 l hl.1 (by omega) (by omega)
 rw[e1];simp only[aa]
 rcases k1 with k1 | ⟨k1,j1,s1⟩
 ·exact ⟨-1,by rw[if_pos (decide_eq_true k1)],.inl (by decide)⟩
 rw[if_neg (by simpa using k1)]
 obtain ⟨r2,e2,k2⟩:=PV x.2 r1 hl.2 (by omega) (by omega)
 rw[e2];simp only[aa]
 rcases k2 with k2 | ⟨k2,j2,s2⟩
 ·exact ⟨-1,by rw[if_pos (decide_eq_true k2)],.inl (by decide)⟩
 rw[if_neg (by simpa using k2)]
 exact ⟨_,rfl,.inr ⟨by omega,by omega,⟨s1,s2⟩⟩⟩
theorem M0:Gw sG:=fun xs l hl h0 h1=>szL (f:=kL xs) xs (eH hl).1 (fun i h l k0 k1=>by
 obtain ⟨r,e,hr⟩:=PW xs[i] l ((eH hl).2 _ (List.getElem_mem h)) k0 k1
 refine ⟨r,?_,hr⟩
 simp only[kL,bF h,if_true,aB h,aa,di,e,af (show i<9223372036854775807 by have:=(eH hl).1;omega)]
 exact fb (by simp)) (fun l=>by simp only[kL,ba];rfl) h0 h1
theorem JV:Gw nz:=by
 intro x l hl h0 h1
 unfold nz
 try simp only[di]
 obtain ⟨r1,e1,k1⟩:=M0 x.2 l hl.2 (by omega) (by omega)
 rw[e1];simp only[aa]
 rcases k1 with k1 | ⟨k1,j1,s1⟩
 ·exact ⟨-1,by rw[if_pos (decide_eq_true k1)],.inl (by decide)⟩
 rw[if_neg (by simpa using k1)]
 exact ⟨_,rfl,.inr ⟨by omega,by omega,⟨trivial,s1⟩⟩⟩
theorem PX:Gw vy:=fun xs l hl h0 h1=>szF xs (eH hl).1 (fun _=>trivial) h0 h1
theorem PY:Gw vz:=fun xs l hl h0 h1=>szL (f:=l5 xs) xs (eH hl).1 (fun i h l k0 k1=>by
 obtain ⟨r,e,hr⟩:=LB xs[i] l ((eH hl).2 _ (List.getElem_mem h)) k0 k1
 refine ⟨r,?_,hr⟩
 simp only[l5,bF h,if_true,aB h,aa,di,e,af (show i<9223372036854775807 by have:=(eH hl).1;omega)]
 exact fb (by simp)) (fun l=>by simp only[l5,ba];rfl) h0 h1
theorem FI:Gw kM:=by
 intro x l hl h0 h1
 unfold kM
 try simp only[di]
 obtain ⟨r1,e1,k1⟩:=PX x.2.1 l hl.2.1 (by omega) (by omega)
 rw[e1];simp only[aa]
 rcases k1 with k1 | ⟨k1,j1,s1⟩
 ·exact ⟨-1,by rw[if_pos (decide_eq_true k1)],.inl (by decide)⟩
 rw[if_neg (by simpa using k1)]
 obtain ⟨r2,e2,k2⟩:=PY x.2.2 r1 hl.2.2 (by omega) (by omega)
 rw[e2];simp only[aa]
 rcases k2 with k2 | ⟨k2,j2,s2⟩
 ·exact ⟨-1,by rw[if_pos (decide_eq_true k2)],.inl (by decide)⟩
 rw[if_neg (by simpa using k2)]
 exact ⟨_,rfl,.inr ⟨by omega,by omega,⟨trivial,s1,s2⟩⟩⟩
theorem Dk:Gw mZ:=fun xs l hl h0 h1=>szL (f:=gf xs) xs (eH hl).1 (fun i h l k0 k1=>by
 obtain ⟨r,e,hr⟩:=FI xs[i] l ((eH hl).2 _ (List.getElem_mem h)) k0 k1
 refine ⟨r,?_,hr⟩
 simp only[gf,bF h,if_true,aB h,aa,di,e,af (show i<9223372036854775807 by have:=(eH hl).1;omega)]
 exact fb (by simp)) (fun l=>by simp only[gf,ba];rfl) h0 h1
theorem M2:Gw sH:=fun xs l hl h0 h1=>szF xs (eH hl).1 (fun _=>⟨trivial,trivial,trivial,trivial⟩) h0 h1
theorem Tg:Gw tZ:=by
 intro x l hl h0 h1
 unfold tZ
 try simp only[di]
 obtain ⟨r1,e1,k1⟩:=M2 x l hl (by omega) (by omega)
 rw[e1];simp only[aa]
 rcases k1 with k1 | ⟨k1,j1,s1⟩
 ·exact ⟨-1,by rw[if_pos (decide_eq_true k1)],.inl (by decide)⟩
 rw[if_neg (by simpa using k1)]
 exact ⟨_,rfl,.inr ⟨by omega,by omega,s1⟩⟩
theorem Dl:Gw jB:=by
 intro x l hl h0 h1
 unfold jB
 try simp only[di]
 obtain ⟨r1,e1,k1⟩:=Tg x.2.1 l hl.2.1 (by omega) (by omega)
 rw[e1];simp only[aa]
 rcases k1 with k1 | ⟨k1,j1,s1⟩
 ·exact ⟨-1,by rw[if_pos (decide_eq_true k1)],.inl (by decide)⟩
 rw[if_neg (by simpa using k1)]
 exact ⟨_,rfl,.inr ⟨by omega,by omega,⟨trivial,s1,trivial⟩⟩⟩
theorem Ce:Gw lJ:=fun xs l hl h0 h1=>szL (f:=fw xs) xs (eH hl).1 (fun i h l k0 k1=>by
 obtain ⟨r,e,hr⟩:=Dl xs[i] l ((eH hl).2 _ (List.getElem_mem h)) k0 k1
 refine ⟨r,?_,hr⟩
 simp only[fw,bF h,if_true,aB h,aa,di,e,af (show i<9223372036854775807 by have:=(eH hl).1;omega)]
 exact fb (by simp)) (fun l=>by simp only[fw,ba];rfl) h0 h1
theorem If:Gw l6:=by
 intro x l hl h0 h1
 unfold l6
 try simp only[di]
 obtain ⟨r1,e1,k1⟩:=Dk x.1 l hl.1 (by omega) (by omega)
 rw[e1];simp only[aa]
 rcases k1 with k1 | ⟨k1,j1,s1⟩
 ·exact ⟨-1,by rw[if_pos (decide_eq_true k1)],.inl (by decide)⟩
 rw[if_neg (by simpa using k1)]
 obtain ⟨r2,e2,k2⟩:=Ce x.2 r1 hl.2 (by omega) (by omega)
 rw[e2];simp only[aa]
 rcases k2 with k2 | ⟨k2,j2,s2⟩
 ·exact ⟨-1,by rw[if_pos (decide_eq_true k2)],.inl (by decide)⟩
 rw[if_neg (by simpa using k2)]
 exact ⟨_,rfl,.inr ⟨by omega,by omega,⟨s1,s2⟩⟩⟩
theorem Cf:Gw lK:=fun xs l hl h0 h1=>szF xs (eH hl).1 (fun _=>⟨trivial,trivial,trivial⟩) h0 h1
theorem M3:Gw pb:=by
 intro x l hl h0 h1
 unfold pb
 try simp only[di]
 obtain ⟨r1,e1,k1⟩:=JV x.1 l hl.1 (by omega) (by omega)
 rw[e1];simp only[aa]
 rcases k1 with k1 | ⟨k1,j1,s1⟩
 ·exact ⟨-1,by rw[if_pos (decide_eq_true k1)],.inl (by decide)⟩
 rw[if_neg (by simpa using k1)]
 obtain ⟨r2,e2,k2⟩:=If x.2.1 r1 hl.2.1 (by omega) (by omega)
 rw[e2];simp only[aa]
 rcases k2 with k2 | ⟨k2,j2,s2⟩
 ·exact ⟨-1,by rw[if_pos (decide_eq_true k2)],.inl (by decide)⟩
 rw[if_neg (by simpa using k2)]
 obtain ⟨r3,e3,k3⟩:=Cf x.2.2.1 r2 hl.2.2.1 (by omega) (by omega)
 rw[e3];simp only[aa]
 rcases k3 with k3 | ⟨k3,j3,s3⟩
 ·exact ⟨-1,by rw[if_pos (decide_eq_true k3)],.inl (by decide)⟩
 rw[if_neg (by simpa using k3)]
 rw[fj (by have:x.2.2.2.size<=9223372036854775807:=hl.2.2.2;omega) (by omega)]
 by_cases k4:r3 - (x.2.2.2.size:Int)<0
 ·exact ⟨-1,by rw[if_pos (decide_eq_true k4)],.inl (by decide)⟩
 rw[if_neg (by simpa using k4)]
 have s4:x.2.2.2.size<=1048576:=by omega
 exact ⟨_,rfl,.inr ⟨by omega,by omega,⟨s1,s2,s3,s4⟩⟩⟩
theorem LC:CH p7:=by
 intro xs hx
 have hn:=(aC hx).1
 unfold p7
 rw[vh (by omega)];simp only[aa]
 rw[toL (f:=nB xs) xs (by omega) (fun ys i h hy=>by simp only[nB,bF h,if_true,aB h,aB (show i<ys.length by omega),aa,di,af (show i<9223372036854775807 by omega),Int.toNat_natCast]) (fun ys hy=>by simp only[nB,ba];rfl)]
 rfl
theorem LD:CH p8:=by
 intro x hx
 unfold p8
 simp only[di,aa]
theorem PZ:CH qR:=by
 intro xs hx
 have hn:=(aC hx).1
 unfold qR
 rw[vh (by omega)];simp only[aa]
 rw[toL (f:=mc xs) xs (by omega) (fun ys i h hy=>by simp only[mc,bF h,if_true,aB h,aB (show i<ys.length by omega),aa,di,LD xs[i] ((aC hx).2 _ (List.getElem_mem h)),af (show i<9223372036854775807 by omega),Int.toNat_natCast]) (fun ys hy=>by simp only[mc,ba];rfl)]
 rfl
theorem P0:CH qS:=by
 intro x hx
 unfold qS
 simp only[di,aa,LC x.1 hx.1,PZ x.2 hx.2]
theorem M4:CH pg:=by
 intro xs hx
 have hn:=(aC hx).1
 unfold pg
 rw[vh (by omega)];simp only[aa]
 rw[toL (f:=kQ xs) xs (by omega) (fun ys i h hy=>by simp only[kQ,bF h,if_true,aB h,aB (show i<ys.length by omega),aa,di,P0 xs[i] ((aC hx).2 _ (List.getElem_mem h)),af (show i<9223372036854775807 by omega),Int.toNat_natCast]) (fun ys hy=>by simp only[kQ,ba];rfl)]
 rfl
theorem JW:CH nC:=by
 intro x hx
 unfold nC
 simp only[di,aa,M4 x.2 hx.2]
theorem P1:CH qT:=by
 intro xs hx
 have hn:=(aC hx).1
 unfold qT
 rw[vh (by omega)];simp only[aa]
 rw[toL (f:=me xs) xs (by omega) (fun ys i h hy=>by simp only[me,bF h,if_true,aB h,aB (show i<ys.length by omega),aa,di,af (show i<9223372036854775807 by omega),Int.toNat_natCast]) (fun ys hy=>by simp only[me,ba];rfl)]
 rfl
theorem P2:CH qU:=by
 intro xs hx
 have hn:=(aC hx).1
 unfold qU
 rw[vh (by omega)];simp only[aa]
 rw[toL (f:=mf xs) xs (by omega) (fun ys i h hy=>by simp only[mf,bF h,if_true,aB h,aB (show i<ys.length by omega),aa,di,LC xs[i] ((aC hx).2 _ (List.getElem_mem h)),af (show i<9223372036854775807 by omega),Int.toNat_natCast]) (fun ys hy=>by simp only[mf,ba];rfl)]
 rfl
theorem FJ:CH kR:=by
 intro x hx
 unfold kR
 simp only[di,aa,P1 x.2.1 hx.2.1,P2 x.2.2 hx.2.2]
theorem Dm:CH jE:=by
 intro xs hx
 have hn:=(aC hx).1
 unfold jE
 rw[vh (by omega)];simp only[aa]
 rw[toL (f:=gj xs) xs (by omega) (fun ys i h hy=>by simp only[gj,bF h,if_true,aB h,aB (show i<ys.length by omega),aa,di,FJ xs[i] ((aC hx).2 _ (List.getElem_mem h)),af (show i<9223372036854775807 by omega),Int.toNat_natCast]) (fun ys hy=>by simp only[gj,ba];rfl)]
 rfl
theorem P3:CH qV:=by
 intro x hx
 unfold qV
 simp only[di,aa]
theorem M5:CH ph:=by
 intro xs hx
 have hn:=(aC hx).1
 unfold ph
 rw[vh (by omega)];simp only[aa]
 rw[toL (f:=kS xs) xs (by omega) (fun ys i h hy=>by simp only[kS,bF h,if_true,aB h,aB (show i<ys.length by omega),aa,di,P3 xs[i] ((aC hx).2 _ (List.getElem_mem h)),af (show i<9223372036854775807 by omega),Int.toNat_natCast]) (fun ys hy=>by simp only[kS,ba];rfl)]
 rfl
theorem Ti:CH ub:=by
 intro x hx
 unfold ub
 simp only[di,aa,M5 x hx]
theorem Dn:CH jF:=by
 intro x hx
 unfold jF
 simp only[di,aa,Ti x.2.1 hx.2.1]
theorem Cg:CH iT:=by
 intro xs hx
 have hn:=(aC hx).1
 unfold iT
 rw[vh (by omega)];simp only[aa]
 rw[toL (f:=fA xs) xs (by omega) (fun ys i h hy=>by simp only[fA,bF h,if_true,aB h,aB (show i<ys.length by omega),aa,di,Dn xs[i] ((aC hx).2 _ (List.getElem_mem h)),af (show i<9223372036854775807 by omega),Int.toNat_natCast]) (fun ys hy=>by simp only[fA,ba];rfl)]
 rfl
theorem Ig:CH mg:=by
 intro x hx
 unfold mg
 simp only[di,aa,Dm x.1 hx.1,Cg x.2 hx.2]
theorem Do:CH jG:=by
 intro x hx
 unfold jG
 simp only[di,aa]
theorem Ci:CH iU:=by
 intro xs hx
 have hn:=(aC hx).1
 unfold iU
 rw[vh (by omega)];simp only[aa]
 rw[toL (f:=fB xs) xs (by omega) (fun ys i h hy=>by simp only[fB,bF h,if_true,aB h,aB (show i<ys.length by omega),aa,di,Do xs[i] ((aC hx).2 _ (List.getElem_mem h)),af (show i<9223372036854775807 by omega),Int.toNat_natCast]) (fun ys hy=>by simp only[fB,ba];rfl)]
 rfl
theorem M6:CH iy:=by
 intro x hx
 unfold iy
 simp only[di,aa,JW x.1 hx.1,Ig x.2.1 hx.2.1,Ci x.2.2.1 hx.2.2.1]
theorem LF:CI ue:=fun xs ys hx hy=>eqL (f:=nD xs ys) xs ys (by have:=(aC hx).1;omega) (fun i h h'=>by
 simp only[nD,bF h,if_true,aB h,aB h',aa,di,af (show i<9223372036854775807 by have:=(aC hx).1;omega)]
 first | exact fb (by simp) | exact pM (by simp) | exact fb (by simp[Prod.ext_iff])) (by simp only[nD,ba];rfl)
theorem LG:CI qa:=by
 intro x y hx hy
 unfold qa
 try simp only[di,aa]
 repeat' split
 all_goals simp_all[Prod.ext_iff]
theorem P4:CI vD:=fun xs ys hx hy=>eqL (f:=mn xs ys) xs ys (by have:=(aC hx).1;omega) (fun i h h'=>by
 simp only[mn,bF h,if_true,aB h,aB h',aa,di,LG xs[i] ys[i] ((aC hx).2 _ (List.getElem_mem h)) ((aC hy).2 _ (List.getElem_mem h')),af (show i<9223372036854775807 by have:=(aC hx).1;omega)]
 first | exact fb (by simp) | exact pM (by simp) | exact fb (by simp[Prod.ext_iff])) (by simp only[mn,ba];rfl)
theorem P5:CI qZ:=by
 intro x y hx hy
 unfold qZ
 try simp only[di,aa,LF x.1 y.1 hx.1 hy.1,P4 x.2 y.2 hx.2 hy.2]
 repeat' split
 all_goals simp_all[Prod.ext_iff]
theorem M7:CI sI:=fun xs ys hx hy=>eqL (f:=kX xs ys) xs ys (by have:=(aC hx).1;omega) (fun i h h'=>by
 simp only[kX,bF h,if_true,aB h,aB h',aa,di,P5 xs[i] ys[i] ((aC hx).2 _ (List.getElem_mem h)) ((aC hy).2 _ (List.getElem_mem h')),af (show i<9223372036854775807 by have:=(aC hx).1;omega)]
 first | exact fb (by simp) | exact pM (by simp) | exact fb (by simp[Prod.ext_iff])) (by simp only[kX,ba];rfl)
theorem JX:CI nE:=by
 intro x y hx hy
 unfold nE
 try simp only[di,aa,M7 x.2 y.2 hx.2 hy.2]
 repeat' split
 all_goals simp_all[Prod.ext_iff]
theorem P6:CI vE:=fun xs ys hx hy=>eqL (f:=mo xs ys) xs ys (by have:=(aC hx).1;omega) (fun i h h'=>by
 simp only[mo,bF h,if_true,aB h,aB h',aa,di,af (show i<9223372036854775807 by have:=(aC hx).1;omega)]
 first | exact fb (by simp) | exact pM (by simp) | exact fb (by simp[Prod.ext_iff])) (by simp only[mo,ba];rfl)
theorem P7:CI vF:=fun xs ys hx hy=>eqL (f:=mq xs ys) xs ys (by have:=(aC hx).1;omega) (fun i h h'=>by
 simp only[mq,bF h,if_true,aB h,aB h',aa,di,LF xs[i] ys[i] ((aC hx).2 _ (List.getElem_mem h)) ((aC hy).2 _ (List.getElem_mem h')),af (show i<9223372036854775807 by have:=(aC hx).1;omega)]
 first | exact fb (by simp) | exact pM (by simp) | exact fb (by simp[Prod.ext_iff])) (by simp only[mq,ba];rfl)
theorem FK:CI kY:=by
 intro x y hx hy
 unfold kY
 try simp only[di,aa,P6 x.2.1 y.2.1 hx.2.1 hy.2.1,P7 x.2.2 y.2.2 hx.2.2 hy.2.2]
 repeat' split
 all_goals simp_all[Prod.ext_iff]
theorem Dq:CI nc:=fun xs ys hx hy=>eqL (f:=gr xs ys) xs ys (by have:=(aC hx).1;omega) (fun i h h'=>by
 simp only[gr,bF h,if_true,aB h,aB h',aa,di,FK xs[i] ys[i] ((aC hx).2 _ (List.getElem_mem h)) ((aC hy).2 _ (List.getElem_mem h')),af (show i<9223372036854775807 by have:=(aC hx).1;omega)]
 first | exact fb (by simp) | exact pM (by simp) | exact fb (by simp[Prod.ext_iff])) (by simp only[gr,ba];rfl)
theorem P8:CI q7:=by
 intro x y hx hy
 unfold q7
 try simp only[di,aa]
 repeat' split
 all_goals simp_all[Prod.ext_iff]
theorem M8:CI sJ:=fun xs ys hx hy=>eqL (f:=kZ xs ys) xs ys (by have:=(aC hx).1;omega) (fun i h h'=>by
 simp only[kZ,bF h,if_true,aB h,aB h',aa,di,P8 xs[i] ys[i] ((aC hx).2 _ (List.getElem_mem h)) ((aC hy).2 _ (List.getElem_mem h')),af (show i<9223372036854775807 by have:=(aC hx).1;omega)]
 first | exact fb (by simp) | exact pM (by simp) | exact fb (by simp[Prod.ext_iff])) (by simp only[kZ,ba];rfl)
theorem Tj:CI uf:=by
 intro x y hx hy
 unfold uf
 try simp only[di,aa,M8 x y hx hy]
 repeat' split
 all_goals simp_all[Prod.ext_iff]
theorem Dr:CI jJ:=by
 intro x y hx hy
 unfold jJ
 try simp only[di,aa,Tj x.2.1 y.2.1 hx.2.1 hy.2.1]
 repeat' split
 all_goals simp_all[Prod.ext_iff]
theorem Cj:CI lO:=fun xs ys hx hy=>eqL (f:=fC xs ys) xs ys (by have:=(aC hx).1;omega) (fun i h h'=>by
 simp only[fC,bF h,if_true,aB h,aB h',aa,di,Dr xs[i] ys[i] ((aC hx).2 _ (List.getElem_mem h)) ((aC hy).2 _ (List.getElem_mem h')),af (show i<9223372036854775807 by have:=(aC hx).1;omega)]
 first | exact fb (by simp) | exact pM (by simp) | exact fb (by simp[Prod.ext_iff])) (by simp only[fC,ba];rfl)
theorem Ih:CI mr:=by
 intro x y hx hy
 unfold mr
 try simp only[di,aa,Dq x.1 y.1 hx.1 hy.1,Cj x.2 y.2 hx.2 hy.2]
 repeat' split
 all_goals simp_all[Prod.ext_iff]
theorem Ds:CI jK:=by
 intro x y hx hy
 unfold jK
 try simp only[di,aa]
 repeat' split
 all_goals simp_all[Prod.ext_iff]
theorem Ck:CI lP:=fun xs ys hx hy=>eqL (f:=fD xs ys) xs ys (by have:=(aC hx).1;omega) (fun i h h'=>by
 simp only[fD,bF h,if_true,aB h,aB h',aa,di,Ds xs[i] ys[i] ((aC hx).2 _ (List.getElem_mem h)) ((aC hy).2 _ (List.getElem_mem h')),af (show i<9223372036854775807 by have:=(aC hx).1;omega)]
 first | exact fb (by simp) | exact pM (by simp) | exact fb (by simp[Prod.ext_iff])) (by simp only[fD,ba];rfl)
theorem El:CI iD:=by
 intro x y hx hy
 unfold iD
 try simp only[di,aa,JX x.1 y.1 hx.1 hy.1,Ih x.2.1 y.2.1 hx.2.1 hy.2.1,Ck x.2.2.1 y.2.2.1 hx.2.2.1 hy.2.2.1]
 repeat' split
 all_goals simp_all[Prod.ext_iff]
theorem JY:Gw rb:=fun xs l hl h0 h1=>szF xs (eH hl).1 (fun _=>⟨trivial,⟨trivial,trivial,trivial,trivial⟩⟩) h0 h1
theorem P9:Gw re:=by
 intro x l hl h0 h1
 unfold re
 try simp only[di]
 obtain ⟨r1,e1,k1⟩:=JY x l hl (by omega) (by omega)
 rw[e1];simp only[aa]
 rcases k1 with k1 | ⟨k1,j1,s1⟩
 ·exact ⟨-1,by rw[if_pos (decide_eq_true k1)],.inl (by decide)⟩
 rw[if_neg (by simpa using k1)]
 exact ⟨_,rfl,.inr ⟨by omega,by omega,s1⟩⟩
theorem M9:CH pj:=by
 intro x hx
 unfold pj
 simp only[di,aa,LD x.2 hx.2]
theorem JZ:CH nL:=by
 intro xs hx
 have hn:=(aC hx).1
 unfold nL
 rw[vh (by omega)];simp only[aa]
 rw[toL (f:=jU xs) xs (by omega) (fun ys i h hy=>by simp only[jU,bF h,if_true,aB h,aB (show i<ys.length by omega),aa,di,M9 xs[i] ((aC hx).2 _ (List.getElem_mem h)),af (show i<9223372036854775807 by omega),Int.toNat_natCast]) (fun ys hy=>by simp only[jU,ba];rfl)]
 rfl
theorem Qa:CH j9:=by
 intro x hx
 unfold j9
 simp only[di,aa,JZ x hx]
theorem Na:CI pn:=by
 intro x y hx hy
 unfold pn
 try simp only[di,aa,LG x.2 y.2 hx.2 hy.2]
 repeat' split
 all_goals simp_all[Prod.ext_iff]
theorem J4:CI rf:=fun xs ys hx hy=>eqL (f:=jV xs ys) xs ys (by have:=(aC hx).1;omega) (fun i h h'=>by
 simp only[jV,bF h,if_true,aB h,aB h',aa,di,Na xs[i] ys[i] ((aC hx).2 _ (List.getElem_mem h)) ((aC hy).2 _ (List.getElem_mem h')),af (show i<9223372036854775807 by have:=(aC hx).1;omega)]
 first | exact fb (by simp) | exact pM (by simp) | exact fb (by simp[Prod.ext_iff])) (by simp only[jV,ba];rfl)
theorem Qb:CI rh:=by
 intro x y hx hy
 unfold rh
 try simp only[di,aa,J4 x y hx hy]
 repeat' split
 all_goals simp_all[Prod.ext_iff]
end D
namespace D
open Go.RowKit
theorem cM {R S:Type} {f:S->Option (Out R S)} (Inv:Nat->S->Prop) (Q:Out R S->Prop) (N:Nat)
  (h: ∀i s,i<=N->Inv i s->(i<N/\ ∃s',f s=some (.nxt s')/\Inv (i+1) s')\/ ∃o,f s=some o/\(∀s',o≠ .nxt s')/\Q o) {s:S} (h0:Inv 0 s) (hN:N<aV): ∃o,ax f aV s=some o/\Q o:=by
 have key: ∀(k i:Nat) (s:S),i<=N->N<i+k->Inv i s-> ∃o,ax f k s=some o/\Q o:=by
  intro k
  induction k with
  | zero=>intro i s h1 h2;omega
  | succ k ih =>
   intro i s h1 h2 hI
   rcases h i s h1 hI with ⟨hi,s',e,hI'⟩ | ⟨o,e,hn,hq⟩
   ·obtain ⟨o,e',hq⟩:=ih (i+1) s' (by omega) (by omega) hI'
    exact ⟨o,by rw[ax,e];exact e',hq⟩
   ·refine ⟨o,?_,hq⟩
    rw[ax,e]
    cases o with
    | nxt s'=>exact absurd rfl (hn s')
    | brk s'=>rfl
    | ret r=>rfl
 exact key aV 0 s (by omega) (by omega) h0
theorem oR {R S:Type} {f:S->Option (Out R S)} (Inv:Nat->S->Prop) (N:Nat) (h: ∀i s,i<N->Inv i s-> ∃s',f s=some (.nxt s')/\Inv (i+1) s') (he: ∀s,Inv N s->f s=some (.brk s)) {s:S} (h0:Inv 0 s) (hN:N<aV): ∃s',ax f aV s=some (.brk s')/\Inv N s':=by
 obtain ⟨o,e,s',rfl,h⟩:=cM (f:=f) Inv (fun o=> ∃s',o= .brk s'/\Inv N s') N (fun i s hi hI=>by
  by_cases h1:i<N
  ·exact .inl ⟨h1,h i s h1 hI⟩
  ·obtain rfl:i=N:=by omega
   exact .inr ⟨_,he s hI,(fun s' e=>by cases e),s,rfl,hI⟩) h0 hN
 exact ⟨s',e,h⟩
theorem bm {R S:Type} {f:S->Option (Out R S)} (st:Nat->S) (N:Nat) (h: ∀i,i<N->f (st i)=some (.nxt (st (i+1)))) (he:f (st N)=some (.brk (st N))) (hN:N<aV):ax f aV (st 0)=some (.brk (st N)):=Ie st N h he hN
theorem vi {k:Nat} (h:k<=9223372036854775807):k<aV:=dB k h
theorem oS {i:Nat} (h:i<=9223372036854775807):IntKind.i64.wrap ((i:Int) - 1)=(i:Int) - 1:=fj (by omega) (by omega)
theorem aK {α:Type} {b:Nat} {xs ys:List α} (h:(xs.length+ys.length)*b<=140737488355328):cm b xs ys=some (xs++ys):=by unfold cm;rw[if_pos h]
theorem cq {R S T:Type} {x:Option (Out R S)} {r:R} {kr:R->Option T} {k:S->Option T} (h:x=some (.ret r)):aN x kr k=kr r:=by rw[h];rfl
theorem au {R S T:Type} {x:Option (Out R S)} {s:S} {kr:R->Option T} {k:S->Option T} (h:x=some (.brk s)):aN x kr k=k s:=by rw[h];rfl
def nth {α:Type} [Inhabited α] (xs:List α) (i:Int):α:=xs.getD i.toNat default
section
variable {α:Type} [Inhabited α] {xs ys:List α}
theorem aI {i:Int} (h0:0<=i) (h1:i<xs.length):aQ xs i=some (nth xs i):=by
 unfold aQ nth
 rw[if_pos h0]
 have:i.toNat<xs.length:=by omega
 simp[List.getD_eq_getElem?_getD,this]
theorem bW {i:Nat} (h:i<xs.length):nth xs (i:Int)=xs[i]:=by simp[nth,List.getD_eq_getElem?_getD,h]
theorem cj {i:Int} (h0:0<=i) (h1:i<xs.length):nth xs i∈xs:=by
 have:i.toNat<xs.length:=by omega
 have e:nth xs i=xs[i.toNat]:=by simp[nth,List.getD_eq_getElem?_getD,this]
 rw[e];exact List.getElem_mem this
theorem iJ {i:Int} (h0:0<=i) (h1:i<xs.length):nth (xs++ys) i=nth xs i:=by
 have:i.toNat<xs.length:=by omega
 simp[nth,List.getD_eq_getElem?_getD,List.getElem?_append_left this]
theorem J5 {x:α} (h:x∈xs): ∃i:Nat,i<xs.length/\nth xs (i:Int)=x:=by
 obtain ⟨i,hi,rfl⟩:=List.getElem_of_mem h
 exact ⟨i,hi,bW hi⟩
theorem Ii {i:Int} {x:α} (h0:0<=i) (h1:i<xs.length):nth (xs.set i.toNat x) i=x:=by
 have:i.toNat<xs.length:=by omega
 simp[nth,List.getD_eq_getElem?_getD,this]
theorem Xm (h:xs.length=ys.length) (k: ∀i:Nat,i<xs.length->nth xs (i:Int)=nth ys (i:Int)):xs=ys:=by
 refine List.ext_getElem h fun i h1 h2=>?_
 have:=k i h1
 rwa [bW h1,bW h2] at this
end
section
variable {κ:Type} [DecidableEq κ]
def nbL (l:List κ):Option κ->List κ
 | none=>l
 | some x=>if x∈l then l else l++ [x]
def nbI (l:List κ):Option κ->Int
 | none=> -1
 | some x=>(l.idxOf x:Int)
def nbS (l:List κ) (os:List (Option κ)):List κ:=os.foldl nbL l
def nbR (l:List κ):List (Option κ)->List Int
 | [] =>[]
 | o::os=>nbI l o::nbR (nbL l o) os
theorem xm (l:List κ) (os:List (Option κ)) (o:Option κ):nbS l (os++ [o])=nbL (nbS l os) o:=by simp[nbS]
theorem uk: ∀(l:List κ) (os:List (Option κ)) (o:Option κ),nbR l (os++ [o])=nbR l os++ [nbI (nbS l os) o]
 | l,[],o=>rfl
 | l,p::os,o=>by
  show nbI l p::nbR (nbL l p) (os++ [o])=nbI l p::nbR (nbL l p) os++ [nbI (nbS (nbL l p) os) o]
  rw[uk (nbL l p) os o];rfl
theorem eR: ∀(l:List κ) (os:List (Option κ)),(nbR l os).length=os.length
 | l,[] =>rfl
 | l,o::os=>by show (nbR (nbL l o) os).length+1=_;rw[eR];rfl
theorem Nb (l : List κ) (o : Option κ) : l <+: nbL l o := by
  cases o with
  | none => exact List.prefix_refl l
  | some x => unfold nbL; simp only; split
              · exact List.prefix_refl l
              · exact List.prefix_append l [x]
theorem lV: ∀(l:List κ) (os:List (Option κ)),l <+:nbS l os
 | l,[] =>List.prefix_refl l
 | l,o::os=>(Nb l o).trans (lV (nbL l o) os)
theorem Qc {l : List κ} {o : Option κ} (h : l.Nodup) : (nbL l o).Nodup := by
  cases o with
  | none => exact h
  | some x => unfold nbL; simp only; split
              · exact h
              · rename_i hx; exact List.nodup_append.2 ⟨h, by simp, by rintro a ha b hb rfl; simp at hb; exact hx (hb ▸ ha)⟩
theorem tH: ∀ {l:List κ} {os:List (Option κ)},l.Nodup->(nbS l os).Nodup
 | l,[],h=>h
 | l,o::os,h=>tH (l:=nbL l o) (os:=os) (Qc h)
theorem Qd {l : List κ} {o : Option κ} {x : κ} : x ∈ nbL l o ↔ x ∈ l \/ o = some x := by
  cases o with
  | none => simp [nbL]
  | some y => unfold nbL; simp only; split
              · rename_i h; constructor
                · exact .inl
                · rintro (h' | h')
                  · exact h'
                  · simp at h'; exact h' ▸ h
              · simp; exact or_congr Iff.rfl eq_comm
theorem yB: ∀ {l:List κ} {os:List (Option κ)} {x:κ},x∈nbS l os↔x∈l\/some x∈os
 | l,[],x=>by simp[nbS]
 | l,o::os,x=>by
  show x∈nbS (nbL l o) os↔_
  rw[yB,Qd,List.mem_cons,or_assoc]
  exact or_congr Iff.rfl (or_congr eq_comm Iff.rfl)
theorem np {l:List κ} {x:κ} (h:x∈l):nbL l (some x)=l:=by simp[nbL,h]
theorem lW {l:List κ} {x:κ} (h:x∉l):nbL l (some x)=l++ [x]:=by simp[nbL,h]
theorem qz {l:List κ} {x:κ} (h:x∉l):l.idxOf x=l.length:=List.idxOf_eq_length h
def bfS (nx:κ->List (Option κ)) (first:κ):Nat->List κ
 | 0=>[first]
 | i+1=>match (bfS nx first i)[i]? with
  | some x=>nbS (bfS nx first i) (nx x)
  | none=>bfS nx first i
def bfR (nx:κ->List (Option κ)) (first:κ):Nat->List (List Int)
 | 0=>[]
 | i+1=>bfR nx first i++(match (bfS nx first i)[i]? with
  | some x=>[nbR (bfS nx first i) (nx x)]
  | none=>[])
variable {nx:κ->List (Option κ)} {first:κ}
theorem FL {i:Nat} (h:i<(bfS nx first i).length):bfS nx first (i+1)=nbS (bfS nx first i) (nx ((bfS nx first i)[i])):=by
 rw[bfS,List.getElem?_eq_getElem h]
theorem xn {i:Nat} (h:i<(bfS nx first i).length):bfR nx first (i+1)=bfR nx first i++ [nbR (bfS nx first i) (nx ((bfS nx first i)[i]))]:=by
 rw[bfR,List.getElem?_eq_getElem h]
theorem bR (i:Nat):bfS nx first i <+:bfS nx first (i+1):=by
 rw[bfS]
 split
 ·exact lV _ _
 ·exact List.prefix_refl _
theorem yC {i j:Nat} (h:i<=j):bfS nx first i <+:bfS nx first j:=by
 induction h with
 | refl=>exact List.prefix_refl _
 | step _ ih=>exact ih.trans (bR _)
theorem oT: ∀i,(bfS nx first i).Nodup
 | 0=>by simp[bfS]
 | i+1=>by
  rw[bfS]
  split
  ·exact tH (oT i)
  ·exact oT i
theorem lz {G:κ->Prop} (h0:G first) (h: ∀x,G x-> ∀y,some y∈nx x->G y): ∀i,∀x∈bfS nx first i,G x
 | 0=>by simp[bfS];exact h0
 | i+1=>by
  rw[bfS]
  split
  ·rename_i y hy
   intro x hx
   rcases yB.1 hx with hx | hx
   ·exact lz h0 h i x hx
   ·exact h y (lz h0 h i y (List.mem_of_getElem? hy)) x hx
  ·exact lz h0 h i
theorem Ij (i:Nat):(bfS nx first i)[0]? =some first:=by
 obtain ⟨t,ht⟩:=yC (nx:=nx) (first:=first) (Nat.zero_le i)
 rw[<-ht];rfl
theorem kp: ∀ {i:Nat},(∀j,j<i->j<(bfS nx first j).length)->(bfR nx first i).length=i
 | 0,_=>rfl
 | i+1,h=>by rw[xn (h i (by omega)),al,kp fun j hj=>h j (by omega)];rfl
def bfE (nx:κ->List (Option κ)) (first:κ) (N:Nat):Prop:=N=(bfS nx first N).length/\ ∀i,i<N->i<(bfS nx first i).length
theorem U0 {B:Nat} (hB: ∀i,(bfS nx first i).length<=B): ∃N,N<=B/\bfE nx first N:=by
 have key: ∀m i,i+m=B->(∀j,j<i->j<(bfS nx first j).length)-> ∃N,N<=B/\bfE nx first N:=by
  intro m
  induction m with
  | zero =>
   intro i hi hj
   have h1:=hB i
   have h2:i<=(bfS nx first i).length:=by
    cases i with
    | zero=>omega
    | succ i =>
     have:=hj i (by omega)
     have hp:=(bR (nx:=nx) (first:=first) i).length_le
     omega
   exact ⟨i,by omega,by omega,hj⟩
  | succ m ih =>
   intro i hi hj
   by_cases h:i<(bfS nx first i).length
   ·exact ih (i+1) (by omega) fun j hj'=>by
     by_cases e:j=i
     ·subst e;exact h
     ·exact hj j (by omega)
   ·have h2:i<=(bfS nx first i).length:=by
     cases i with
     | zero=>omega
     | succ i =>
      have:=hj i (by omega)
      have hp:=(bR (nx:=nx) (first:=first) i).length_le
      omega
    exact ⟨i,by omega,by omega,hj⟩
 exact key B 0 (by omega) (by omega)
theorem Tk {N M:Nat} (h:bfE nx first N) (k:bfE nx first M):N=M:=by
 rcases Nat.lt_trichotomy N M with e | e | e
 ·have:=k.2 N e;have:=h.1;omega
 ·exact e
 ·have:=h.2 M e;have:=k.1;omega
end
end D
namespace D
open Go.RowKit
section
variable {α:Type} [Inhabited α]
def smk (mk:α->Nat):List α->Nat
 | [] =>0
 | x::xs=>mk x+smk mk xs
def mkd (mk:α->Nat) (m:α->Nat->α):List α->Nat->List α
 | [],_=>[]
 | x::xs,k=>m x k::mkd mk m xs (k+mk x)
theorem FM (mk:α->Nat): ∀(xs:List α) (x:α),smk mk (xs++ [x])=smk mk xs+mk x
 | [],x=>by simp[smk]
 | y::xs,x=>by simp[smk,FM mk xs x,Nat.add_assoc]
theorem FN (mk:α->Nat) (m:α->Nat->α): ∀(xs:List α) (x:α) (k:Nat),mkd mk m (xs++ [x]) k=mkd mk m xs k++ [m x (k+smk mk xs)]
 | [],x,k=>by simp[mkd,smk]
 | y::xs,x,k=>by simp[mkd,smk,FN mk m xs x,Nat.add_assoc]
theorem bf (mk:α->Nat) (m:α->Nat->α): ∀(xs:List α) (k:Nat),(mkd mk m xs k).length=xs.length
 | [],_=>rfl
 | x::xs,k=>by simp[mkd,bf mk m xs]
theorem FO (mk:α->Nat) (m:α->Nat->α): ∀(xs:List α) (k i:Nat),(mkd mk m xs k).take i=mkd mk m (xs.take i) k
 | [],_,_=>by simp[mkd]
 | x::xs,k,0=>by simp[mkd]
 | x::xs,k,i+1=>by simp[mkd,FO mk m xs]
theorem Tl {xs:List α} {k:Nat} (h:k<xs.length):xs.take (k+1)=xs.take k++ [nth xs (k:Int)]:=by
 rw[List.take_succ_eq_append_getElem h,bW h]
theorem Y1 (mk:α->Nat) (m:α->Nat->α) (xs:List α) (k:Nat) {i:Nat} (h:i<xs.length):nth (mkd mk m xs k) (i:Int)=m (nth xs (i:Int)) (k+smk mk (xs.take i)):=by
 have h':i<(mkd mk m xs k).length:=by rw[bf];exact h
 have e:=Tl h'
 rw[FO,FO,Tl h,FN] at e
 have:=List.append_cancel_left e
 simpa using this.symm
theorem FP (mk:α->Nat) {xs:List α} {i:Nat} (h:i<xs.length):smk mk (xs.take (i+1))=smk mk (xs.take i)+mk (nth xs (i:Int)):=by rw[Tl h,FM]
theorem Qe (mk:α->Nat): ∀(xs:List α) (i:Nat),smk mk (xs.take i)<=smk mk xs
 | [],_=>by simp
 | x::xs,0=>by simp[smk]
 | x::xs,i+1=>by simp[smk];exact Qe mk xs i
theorem iK (mk:α->Nat) {B:Nat} : ∀(xs:List α),(∀x∈xs,mk x<=B)->smk mk xs<=xs.length*B
 | [],_=>by simp[smk]
 | x::xs,h=>by
  have h1:=iK mk xs fun y hy=>h y (by simp[hy])
  have h2:=h x (by simp)
  simp only[smk,ak,Nat.add_mul,Nat.one_mul];omega
theorem Xn {xs ys:List α} {i:Nat} (hi:i<xs.length) (hl:ys.length=i) (x:α):(ys++xs.drop i).set i x=ys++ [x] ++xs.drop (i+1):=by
 rw[List.set_append_right _ _ (by omega),hl,Nat.sub_self,List.drop_eq_getElem_cons hi,List.set_cons_zero,ai];rfl
theorem Dt {R:Type} {f:List α×Int×Int->Option (Out R (List α×Int×Int))} (xs:List α) (mk:α->Nat) (m:α->Nat->α) (hN:xs.length<=9223372036854775807) {k:Nat} (hk:k+smk mk xs<=4611686018427387904)
  (hstep: ∀ys (i k:Nat),i<xs.length->ys.length=xs.length->nth ys (i:Int)=nth xs (i:Int)->k+mk (nth xs (i:Int))<=4611686018427387904->f (ys,(k:Int),(i:Int))=some (.nxt (ys.set i (m (nth xs (i:Int)) k),((k+mk (nth xs (i:Int)):Nat):Int),((i+1:Nat):Int))))
  (hend: ∀ys (k:Nat),ys.length=xs.length->f (ys,(k:Int),(xs.length:Int))=some (.brk (ys,(k:Int),(xs.length:Int)))) :
  ax f aV (xs,(k:Int),0)=some (.brk (mkd mk m xs k,((k+smk mk xs:Nat):Int),(xs.length:Int))):=by
 have hlen: ∀i,i<=xs.length->(mkd mk m (xs.take i) k++xs.drop i).length=xs.length:=fun i hi=>by
  rw[al,bf,ay,aR];omega
 have:=bm (f:=f) (fun i=>(mkd mk m (xs.take i) k++xs.drop i,((k+smk mk (xs.take i):Nat):Int),(i:Int))) xs.length (fun i hi=>by
  have hl:(mkd mk m (xs.take i) k).length=i:=by rw[bf,ay];omega
  have hle:=Qe mk xs (i+1)
  rw[FP mk hi] at hle
  rw[hstep _ i (k+smk mk (xs.take i)) hi (hlen i (by omega)) ?_ (by omega),Xn hi hl,Tl hi,FN,FM,Nat.add_assoc]
  have h':i<(mkd mk m (xs.take i) k++xs.drop i).length:=by rw[hlen i (by omega)];exact hi
  rw[bW h',bW hi,List.getElem_append_right (by omega)]
  simp[hl]) (by
  have:=hend (mkd mk m (xs.take xs.length) k++xs.drop xs.length) (k+smk mk (xs.take xs.length)) (hlen _ (aE _))
  exact this) (vi hN)
 simpa [mkd,smk] using this
theorem FQ {f:Int×Int->Option Ap } (xs:List α) (mk:α->Nat) (m:α->Nat->α) (hN:xs.length<=9223372036854775807) {k:Nat} (hk:k+smk mk xs<=4611686018427387904)
  (hstep: ∀(i k':Nat),i<xs.length->nth (mkd mk m xs k) (i:Int)=m (nth xs (i:Int)) k'->k'+mk (nth xs (i:Int))<=4611686018427387904->f ((k':Int),(i:Int))=some (.nxt (((k'+mk (nth xs (i:Int)):Nat):Int),((i+1:Nat):Int))))
  (hend: ∀(k':Nat),f ((k':Int),(xs.length:Int))=some (.brk ((k':Int),(xs.length:Int)))) :
  ax f aV ((k:Int),0)=some (.brk (((k+smk mk xs:Nat):Int),(xs.length:Int))):=by
 have:=bm (f:=f) (fun i=>(((k+smk mk (xs.take i):Nat):Int),(i:Int))) xs.length (fun i hi=>by
  have hle:=Qe mk xs (i+1)
  rw[FP mk hi] at hle
  rw[hstep i (k+smk mk (xs.take i)) hi (Y1 mk m xs k hi) (by omega),FP mk hi,Nat.add_assoc]) (hend _) (vi hN)
 simpa [smk] using this
end
end D
set_option synthInstance.maxSize 20000
set_option synthInstance.maxHeartbeats 2000000
namespace D
open Go.RowKit
theorem jA {α:Type} {xs:List α} {i:Nat} {x:α} (h:i<xs.length):aQ (xs.set i x) (i:Int)=some x:=by
 rw[aB (by rw[List.length_set];exact h)];simp
theorem Nc {n:Nat} :decide ((n:Int)<0)=false:=by simp only[decide_eq_false_iff_not];omega
def eJ (x:Int):Nat:=1
def Cl (x:Int) (k:Nat):Int:=((k:Nat):Int)
theorem Qf (xs:List Int) (hx:Data.sm xs):smk eJ xs<=1048576*1:=by
 obtain ⟨h1,h2⟩:=aC hx
 have b:=iK eJ (B:=1) xs (fun x hx=>by
  simp[eJ])
 exact Nat.le_trans b (Nat.mul_le_mul_right _ h1)
theorem Qg (xs:List Int) (hx:Data.sm xs) {k:Nat} (hk:k+smk eJ xs<=4611686018427387904):mQ xs (k:Int)=some (((k+smk eJ xs:Nat):Int),mkd eJ Cl xs k):=by
 obtain ⟨hN,hs⟩:=aC hx
 unfold mQ
 rw[au (Dt (f:=k8) xs eJ Cl (by omega) hk (fun ys i k hi hl he hk=>by
  have hz0:=hs _ (cj (xs:=xs) (i:=(i:Int)) (by omega) (by omega))
  unfold k8
  have hi':i<ys.length:=by omega
  generalize hz:nth xs (i:Int)=z at *
  have hk':k+(1)<=4611686018427387904:=hk
  simp only
  rw[if_pos (by simp;omega),aI (by omega) (by omega),he]
  simp only[aa,Int.toNat_natCast,jA hi',List.set_set,af (show i<9223372036854775807 by omega),af (show k<9223372036854775807 by omega)]
  have e:k+eJ z=k+1:=by unfold eJ;omega
  rw[e];rfl) (fun ys k hl=>by
  unfold k8
  simp only
  rw[if_neg (by simp;omega)]))]
theorem Qh (xs:List Int) (hx:Data.sm xs) {k:Nat} (hk:k+smk eJ xs<=4611686018427387904):mR (mkd eJ Cl xs k) (k:Int)=some ((k+smk eJ xs:Nat):Int):=by
 obtain ⟨hN,hs⟩:=aC hx
 unfold mR
 rw[au (FQ (f:=ld _) xs eJ Cl (by omega) hk (fun i k' hi he hk=>by
  have hz0:=hs _ (cj (xs:=xs) (i:=(i:Int)) (by omega) (by omega))
  unfold ld
  generalize hz:nth xs (i:Int)=z at *
  have hk':k'+(1)<=4611686018427387904:=hk
  simp only
  rw[if_pos (by simp[bf];omega),aI (by omega) (by rw[bf];omega),he]
  simp only[Cl,aa,bne_self_eq_false,Bool.false_eq_true,if_false,Nc,af (show i<9223372036854775807 by omega),af (show k'<9223372036854775807 by omega)]
  have e:k'+eJ z=k'+1:=by unfold eJ;omega
  rw[e]) (fun k'=>by
  unfold ld
  simp only
  rw[if_neg (by simp[bf])]))]
def fl (x:Int×Int×Int×Int):Nat:=1+1+1+1
def yD (x:Int×Int×Int×Int) (k:Nat):Int×Int×Int×Int:=(((k:Nat):Int),((k+1:Nat):Int),((k+1+1:Nat):Int),((k+1+1+1:Nat):Int))
theorem Tm (xs:List Yq1) (hx:Data.sm xs):smk fl xs<=1048576*4:=by
 obtain ⟨h1,h2⟩:=aC hx
 have b:=iK fl (B:=4) xs (fun x hx=>by
  simp[fl])
 exact Nat.le_trans b (Nat.mul_le_mul_right _ h1)
theorem Tn (xs:List Yq1) (hx:Data.sm xs) {k:Nat} (hk:k+smk fl xs<=4611686018427387904):nF xs (k:Int)=some (((k+smk fl xs:Nat):Int),mkd fl yD xs k):=by
 obtain ⟨hN,hs⟩:=aC hx
 unfold nF
 rw[au (Dt (f:=jM) xs fl yD (by omega) hk (fun ys i k hi hl he hk=>by
  have hz0:=hs _ (cj (xs:=xs) (i:=(i:Int)) (by omega) (by omega))
  unfold jM
  have hi':i<ys.length:=by omega
  generalize hz:nth xs (i:Int)=z at *
  have hk':k+(1+1+1+1)<=4611686018427387904:=hk
  simp only
  rw[if_pos (by simp;omega),aI (by omega) (by omega),he]
  simp only[aa,Int.toNat_natCast,jA hi',List.set_set,af (show i<9223372036854775807 by omega),af (show k<9223372036854775807 by omega),af (show k+1<9223372036854775807 by omega),af (show k+1+1<9223372036854775807 by omega),af (show k+1+1+1<9223372036854775807 by omega)]
  have e:k+fl z=k+1+1+1+1:=by unfold fl;omega
  rw[e];rfl) (fun ys k hl=>by
  unfold jM
  simp only
  rw[if_neg (by simp;omega)]))]
theorem To (xs:List Yq1) (hx:Data.sm xs) {k:Nat} (hk:k+smk fl xs<=4611686018427387904):nI (mkd fl yD xs k) (k:Int)=some ((k+smk fl xs:Nat):Int):=by
 obtain ⟨hN,hs⟩:=aC hx
 unfold nI
 rw[au (FQ (f:=jQ _) xs fl yD (by omega) hk (fun i k' hi he hk=>by
  have hz0:=hs _ (cj (xs:=xs) (i:=(i:Int)) (by omega) (by omega))
  unfold jQ
  generalize hz:nth xs (i:Int)=z at *
  have hk':k'+(1+1+1+1)<=4611686018427387904:=hk
  simp only
  rw[if_pos (by simp[bf];omega),aI (by omega) (by rw[bf];omega),he]
  simp only[yD,aa,bne_self_eq_false,Bool.false_eq_true,if_false,Nc,af (show i<9223372036854775807 by omega),af (show k'<9223372036854775807 by omega),af (show k'+1<9223372036854775807 by omega),af (show k'+1+1<9223372036854775807 by omega),af (show k'+1+1+1<9223372036854775807 by omega)]
  have e:k'+fl z=k'+1+1+1+1:=by unfold fl;omega
  rw[e]) (fun k'=>by
  unfold jQ
  simp only
  rw[if_neg (by simp[bf])]))]
def dN (x:(List Int)×(List Yq1)):Nat:=smk eJ (x.1)+smk fl (x.2)
def um (x:(List Int)×(List Yq1)) (k:Nat):(List Int)×(List Yq1):=(mkd eJ Cl (x.1) (k),mkd fl yD (x.2) (k+smk eJ (x.1)))
theorem Qi (xs:List Yq4) (hx:Data.sm xs):smk dN xs<=1048576*5242880:=by
 obtain ⟨h1,h2⟩:=aC hx
 have b:=iK dN (B:=5242880) xs (fun x hx=>by
  have hs:=h2 x hx
  have q0:=Qf (x.1) hs.1
  have q1:=Tm (x.2) hs.2
  unfold dN;omega)
 exact Nat.le_trans b (Nat.mul_le_mul_right _ h1)
theorem Qj (xs:List Yq4) (hx:Data.sm xs) {k:Nat} (hk:k+smk dN xs<=4611686018427387904):mw xs (k:Int)=some (((k+smk dN xs:Nat):Int),mkd dN um xs k):=by
 obtain ⟨hN,hs⟩:=aC hx
 unfold mw
 rw[au (Dt (f:=iX) xs dN um (by omega) hk (fun ys i k hi hl he hk=>by
  have hz0:=hs _ (cj (xs:=xs) (i:=(i:Int)) (by omega) (by omega))
  unfold iX
  have hi':i<ys.length:=by omega
  generalize hz:nth xs (i:Int)=z at *
  have hk':k+(smk eJ (z.1)+smk fl (z.2))<=4611686018427387904:=hk
  have m0:=Qg (z.1) hz0.1 (k:=k) (by omega)
  have m1:=Tn (z.2) hz0.2 (k:=k+smk eJ (z.1)) (by omega)
  simp only
  rw[if_pos (by simp;omega),aI (by omega) (by omega),he]
  simp only[aa,Int.toNat_natCast,jA hi',List.set_set,af (show i<9223372036854775807 by omega),m0,m1]
  have e:k+dN z=k+smk eJ (z.1)+smk fl (z.2):=by unfold dN;omega
  rw[e];rfl) (fun ys k hl=>by
  unfold iX
  simp only
  rw[if_neg (by simp;omega)]))]
theorem Qk (xs:List Yq4) (hx:Data.sm xs) {k:Nat} (hk:k+smk dN xs<=4611686018427387904):mz (mkd dN um xs k) (k:Int)=some ((k+smk dN xs:Nat):Int):=by
 obtain ⟨hN,hs⟩:=aC hx
 unfold mz
 rw[au (FQ (f:=iZ _) xs dN um (by omega) hk (fun i k' hi he hk=>by
  have hz0:=hs _ (cj (xs:=xs) (i:=(i:Int)) (by omega) (by omega))
  unfold iZ
  generalize hz:nth xs (i:Int)=z at *
  have hk':k'+(smk eJ (z.1)+smk fl (z.2))<=4611686018427387904:=hk
  have m0:=Qh (z.1) hz0.1 (k:=k') (by omega)
  have m1:=To (z.2) hz0.2 (k:=k'+smk eJ (z.1)) (by omega)
  simp only
  rw[if_pos (by simp[bf];omega),aI (by omega) (by rw[bf];omega),he]
  simp only[um,aa,bne_self_eq_false,Bool.false_eq_true,if_false,Nc,af (show i<9223372036854775807 by omega),m0,m1]
  have e:k'+dN z=k'+smk eJ (z.1)+smk fl (z.2):=by unfold dN;omega
  rw[e]) (fun k'=>by
  unfold iZ
  simp only
  rw[if_neg (by simp[bf])]))]
def dO (x:Bool):Nat:=1
def yE (x:Bool) (k:Nat):Bool:=((Int.tmod ((k:Nat):Int) 3)==0)
theorem Tp (xs:List Bool) (hx:Data.sm xs):smk dO xs<=1048576*1:=by
 obtain ⟨h1,h2⟩:=aC hx
 have b:=iK dO (B:=1) xs (fun x hx=>by
  simp[dO])
 exact Nat.le_trans b (Nat.mul_le_mul_right _ h1)
theorem Tq (xs:List Bool) (hx:Data.sm xs) {k:Nat} (hk:k+smk dO xs<=4611686018427387904):nG xs (k:Int)=some (((k+smk dO xs:Nat):Int),mkd dO yE xs k):=by
 obtain ⟨hN,hs⟩:=aC hx
 unfold nG
 rw[au (Dt (f:=jN) xs dO yE (by omega) hk (fun ys i k hi hl he hk=>by
  have hz0:=hs _ (cj (xs:=xs) (i:=(i:Int)) (by omega) (by omega))
  unfold jN
  have hi':i<ys.length:=by omega
  generalize hz:nth xs (i:Int)=z at *
  have hk':k+(1)<=4611686018427387904:=hk
  simp only
  rw[if_pos (by simp;omega),aI (by omega) (by omega),he]
  simp only[aa,Int.toNat_natCast,jA hi',List.set_set,af (show i<9223372036854775807 by omega),af (show k<9223372036854775807 by omega)]
  have e:k+dO z=k+1:=by unfold dO;omega
  rw[e];rfl) (fun ys k hl=>by
  unfold jN
  simp only
  rw[if_neg (by simp;omega)]))]
theorem Ts (xs:List Bool) (hx:Data.sm xs) {k:Nat} (hk:k+smk dO xs<=4611686018427387904):nJ (mkd dO yE xs k) (k:Int)=some ((k+smk dO xs:Nat):Int):=by
 obtain ⟨hN,hs⟩:=aC hx
 unfold nJ
 rw[au (FQ (f:=jR _) xs dO yE (by omega) hk (fun i k' hi he hk=>by
  have hz0:=hs _ (cj (xs:=xs) (i:=(i:Int)) (by omega) (by omega))
  unfold jR
  generalize hz:nth xs (i:Int)=z at *
  have hk':k'+(1)<=4611686018427387904:=hk
  simp only
  rw[if_pos (by simp[bf];omega),aI (by omega) (by rw[bf];omega),he]
  simp only[yE,aa,bne_self_eq_false,Bool.false_eq_true,if_false,Nc,af (show i<9223372036854775807 by omega),af (show k'<9223372036854775807 by omega)]
  have e:k'+dO z=k'+1:=by unfold dO;omega
  rw[e]) (fun k'=>by
  unfold jR
  simp only
  rw[if_neg (by simp[bf])]))]
def fm (x:List Int):Nat:=smk eJ (x)
def yF (x:List Int) (k:Nat):List Int:=mkd eJ Cl x k
theorem Tt (xs:List (List Int)) (hx:Data.sm xs):smk fm xs<=1048576*1048576:=by
 obtain ⟨h1,h2⟩:=aC hx
 have b:=iK fm (B:=1048576) xs (fun x hx=>by
  have hs:=h2 x hx
  have q0:=Qf (x) hs
  unfold fm;omega)
 exact Nat.le_trans b (Nat.mul_le_mul_right _ h1)
theorem Tu (xs:List (List Int)) (hx:Data.sm xs) {k:Nat} (hk:k+smk fm xs<=4611686018427387904):nH xs (k:Int)=some (((k+smk fm xs:Nat):Int),mkd fm yF xs k):=by
 obtain ⟨hN,hs⟩:=aC hx
 unfold nH
 rw[au (Dt (f:=jO) xs fm yF (by omega) hk (fun ys i k hi hl he hk=>by
  have hz0:=hs _ (cj (xs:=xs) (i:=(i:Int)) (by omega) (by omega))
  unfold jO
  have hi':i<ys.length:=by omega
  generalize hz:nth xs (i:Int)=z at *
  have hk':k+(smk eJ (z))<=4611686018427387904:=hk
  have m0:=Qg (z) hz0 (k:=k) (by omega)
  simp only
  rw[if_pos (by simp;omega),aI (by omega) (by omega),he]
  simp only[aa,Int.toNat_natCast,jA hi',List.set_set,af (show i<9223372036854775807 by omega),m0]
  have e:k+fm z=k+smk eJ (z):=by unfold fm;omega
  rw[e];rfl) (fun ys k hl=>by
  unfold jO
  simp only
  rw[if_neg (by simp;omega)]))]
theorem Tv (xs:List (List Int)) (hx:Data.sm xs) {k:Nat} (hk:k+smk fm xs<=4611686018427387904):nK (mkd fm yF xs k) (k:Int)=some ((k+smk fm xs:Nat):Int):=by
 obtain ⟨hN,hs⟩:=aC hx
 unfold nK
 rw[au (FQ (f:=jS _) xs fm yF (by omega) hk (fun i k' hi he hk=>by
  have hz0:=hs _ (cj (xs:=xs) (i:=(i:Int)) (by omega) (by omega))
  unfold jS
  generalize hz:nth xs (i:Int)=z at *
  have hk':k'+(smk eJ (z))<=4611686018427387904:=hk
  have m0:=Qh (z) hz0 (k:=k') (by omega)
  simp only
  rw[if_pos (by simp[bf];omega),aI (by omega) (by rw[bf];omega),he]
  simp only[yF,aa,bne_self_eq_false,Bool.false_eq_true,if_false,Nc,af (show i<9223372036854775807 by omega),m0]
  have e:k'+fm z=k'+smk eJ (z):=by unfold fm;omega
  rw[e]) (fun k'=>by
  unfold jS
  simp only
  rw[if_neg (by simp[bf])]))]
def br (x:Int×(List Bool)×(List (List Int))):Nat:=1+smk dO (x.2.1)+smk fm (x.2.2)
def kq (x:Int×(List Bool)×(List (List Int))) (k:Nat):Int×(List Bool)×(List (List Int)):=(((k:Nat):Int),mkd dO yE (x.2.1) (k+1),mkd fm yF (x.2.2) (k+1+smk dO (x.2.1)))
theorem FR (xs:List Yq2) (hx:Data.sm xs):smk br xs<=1048576*1099512676353:=by
 obtain ⟨h1,h2⟩:=aC hx
 have b:=iK br (B:=1099512676353) xs (fun x hx=>by
  have hs:=h2 x hx
  have q0:=Tp (x.2.1) hs.2.1
  have q1:=Tt (x.2.2) hs.2.2
  unfold br;omega)
 exact Nat.le_trans b (Nat.mul_le_mul_right _ h1)
theorem FU (xs:List Yq2) (hx:Data.sm xs) {k:Nat} (hk:k+smk br xs<=4611686018427387904):gT xs (k:Int)=some (((k+smk br xs:Nat):Int),mkd br kq xs k):=by
 obtain ⟨hN,hs⟩:=aC hx
 unfold gT
 rw[au (Dt (f:=e7) xs br kq (by omega) hk (fun ys i k hi hl he hk=>by
  have hz0:=hs _ (cj (xs:=xs) (i:=(i:Int)) (by omega) (by omega))
  unfold e7
  have hi':i<ys.length:=by omega
  generalize hz:nth xs (i:Int)=z at *
  have hk':k+(1+smk dO (z.2.1)+smk fm (z.2.2))<=4611686018427387904:=hk
  have m0:=Tq (z.2.1) hz0.2.1 (k:=k+1) (by omega)
  have m1:=Tu (z.2.2) hz0.2.2 (k:=k+1+smk dO (z.2.1)) (by omega)
  simp only
  rw[if_pos (by simp;omega),aI (by omega) (by omega),he]
  simp only[aa,Int.toNat_natCast,jA hi',List.set_set,af (show i<9223372036854775807 by omega),af (show k<9223372036854775807 by omega),m0,m1]
  have e:k+br z=k+1+smk dO (z.2.1)+smk fm (z.2.2):=by unfold br;omega
  rw[e];rfl) (fun ys k hl=>by
  unfold e7
  simp only
  rw[if_neg (by simp;omega)]))]
theorem FV (xs:List Yq2) (hx:Data.sm xs) {k:Nat} (hk:k+smk br xs<=4611686018427387904):gU (mkd br kq xs k) (k:Int)=some ((k+smk br xs:Nat):Int):=by
 obtain ⟨hN,hs⟩:=aC hx
 unfold gU
 rw[au (FQ (f:=e8 _) xs br kq (by omega) hk (fun i k' hi he hk=>by
  have hz0:=hs _ (cj (xs:=xs) (i:=(i:Int)) (by omega) (by omega))
  unfold e8
  generalize hz:nth xs (i:Int)=z at *
  have hk':k'+(1+smk dO (z.2.1)+smk fm (z.2.2))<=4611686018427387904:=hk
  have m0:=Ts (z.2.1) hz0.2.1 (k:=k'+1) (by omega)
  have m1:=Tv (z.2.2) hz0.2.2 (k:=k'+1+smk dO (z.2.1)) (by omega)
  simp only
  rw[if_pos (by simp[bf];omega),aI (by omega) (by rw[bf];omega),he]
  simp only[kq,aa,bne_self_eq_false,Bool.false_eq_true,if_false,Nc,af (show i<9223372036854775807 by omega),af (show k'<9223372036854775807 by omega),m0,m1]
  have e:k'+br z=k'+1+smk dO (z.2.1)+smk fm (z.2.2):=by unfold br;omega
  rw[e]) (fun k'=>by
  unfold e8
  simp only
  rw[if_neg (by simp[bf])]))]
def cN (x:Int×Int×Int×Int):Nat:=1+1+1+1
def uo (x:Int×Int×Int×Int) (k:Nat):Int×Int×Int×Int:=(((k:Nat):Int),((k+1:Nat):Int),((k+1+1:Nat):Int),((k+1+1+1:Nat):Int))
theorem Ql (xs:List Yq1) (hx:Data.sm xs):smk cN xs<=1048576*4:=by
 obtain ⟨h1,h2⟩:=aC hx
 have b:=iK cN (B:=4) xs (fun x hx=>by
  simp[cN])
 exact Nat.le_trans b (Nat.mul_le_mul_right _ h1)
theorem Qm (xs:List Yq1) (hx:Data.sm xs) {k:Nat} (hk:k+smk cN xs<=4611686018427387904):my xs (k:Int)=some (((k+smk cN xs:Nat):Int),mkd cN uo xs k):=by
 obtain ⟨hN,hs⟩:=aC hx
 unfold my
 rw[au (Dt (f:=iY) xs cN uo (by omega) hk (fun ys i k hi hl he hk=>by
  have hz0:=hs _ (cj (xs:=xs) (i:=(i:Int)) (by omega) (by omega))
  unfold iY
  have hi':i<ys.length:=by omega
  generalize hz:nth xs (i:Int)=z at *
  have hk':k+(1+1+1+1)<=4611686018427387904:=hk
  simp only
  rw[if_pos (by simp;omega),aI (by omega) (by omega),he]
  simp only[aa,Int.toNat_natCast,jA hi',List.set_set,af (show i<9223372036854775807 by omega),af (show k<9223372036854775807 by omega),af (show k+1<9223372036854775807 by omega),af (show k+1+1<9223372036854775807 by omega),af (show k+1+1+1<9223372036854775807 by omega)]
  have e:k+cN z=k+1+1+1+1:=by unfold cN;omega
  rw[e];rfl) (fun ys k hl=>by
  unfold iY
  simp only
  rw[if_neg (by simp;omega)]))]
theorem Qn (xs:List Yq1) (hx:Data.sm xs) {k:Nat} (hk:k+smk cN xs<=4611686018427387904):mA (mkd cN uo xs k) (k:Int)=some ((k+smk cN xs:Nat):Int):=by
 obtain ⟨hN,hs⟩:=aC hx
 unfold mA
 rw[au (FQ (f:=ja _) xs cN uo (by omega) hk (fun i k' hi he hk=>by
  have hz0:=hs _ (cj (xs:=xs) (i:=(i:Int)) (by omega) (by omega))
  unfold ja
  generalize hz:nth xs (i:Int)=z at *
  have hk':k'+(1+1+1+1)<=4611686018427387904:=hk
  simp only
  rw[if_pos (by simp[bf];omega),aI (by omega) (by rw[bf];omega),he]
  simp only[uo,aa,bne_self_eq_false,Bool.false_eq_true,if_false,Nc,af (show i<9223372036854775807 by omega),af (show k'<9223372036854775807 by omega),af (show k'+1<9223372036854775807 by omega),af (show k'+1+1<9223372036854775807 by omega),af (show k'+1+1+1<9223372036854775807 by omega)]
  have e:k'+cN z=k'+1+1+1+1:=by unfold cN;omega
  rw[e]) (fun k'=>by
  unfold ja
  simp only
  rw[if_neg (by simp[bf])]))]
def bt (x:Int×((List Yq1))×Int):Nat:=1+smk cN (x.2.1)+1
def jg (x:Int×((List Yq1))×Int) (k:Nat):Int×((List Yq1))×Int:=(((k:Nat):Int),mkd cN uo (x.2.1) (k+1),((k+1+smk cN (x.2.1):Nat):Int))
theorem Du (xs:List Yq3) (hx:Data.sm xs):smk bt xs<=1048576*4194306:=by
 obtain ⟨h1,h2⟩:=aC hx
 have b:=iK bt (B:=4194306) xs (fun x hx=>by
  have hs:=h2 x hx
  have q0:=Ql (x.2.1) hs.2.1
  unfold bt;omega)
 exact Nat.le_trans b (Nat.mul_le_mul_right _ h1)
theorem Dv (xs:List Yq3) (hx:Data.sm xs) {k:Nat} (hk:k+smk bt xs<=4611686018427387904):gu xs (k:Int)=some (((k+smk bt xs:Nat):Int),mkd bt jg xs k):=by
 obtain ⟨hN,hs⟩:=aC hx
 unfold gu
 rw[au (Dt (f:=eC) xs bt jg (by omega) hk (fun ys i k hi hl he hk=>by
  have hz0:=hs _ (cj (xs:=xs) (i:=(i:Int)) (by omega) (by omega))
  unfold eC
  have hi':i<ys.length:=by omega
  generalize hz:nth xs (i:Int)=z at *
  have hk':k+(1+smk cN (z.2.1)+1)<=4611686018427387904:=hk
  have m0:=Qm (z.2.1) hz0.2.1 (k:=k+1) (by omega)
  simp only
  rw[if_pos (by simp;omega),aI (by omega) (by omega),he]
  simp only[aa,Int.toNat_natCast,jA hi',List.set_set,af (show i<9223372036854775807 by omega),af (show k<9223372036854775807 by omega),af (show k+1+smk cN (z.2.1)<9223372036854775807 by omega),m0]
  have e:k+bt z=k+1+smk cN (z.2.1)+1:=by unfold bt;omega
  rw[e];rfl) (fun ys k hl=>by
  unfold eC
  simp only
  rw[if_neg (by simp;omega)]))]
theorem Dw (xs:List Yq3) (hx:Data.sm xs) {k:Nat} (hk:k+smk bt xs<=4611686018427387904):gy (mkd bt jg xs k) (k:Int)=some ((k+smk bt xs:Nat):Int):=by
 obtain ⟨hN,hs⟩:=aC hx
 unfold gy
 rw[au (FQ (f:=eE _) xs bt jg (by omega) hk (fun i k' hi he hk=>by
  have hz0:=hs _ (cj (xs:=xs) (i:=(i:Int)) (by omega) (by omega))
  unfold eE
  generalize hz:nth xs (i:Int)=z at *
  have hk':k'+(1+smk cN (z.2.1)+1)<=4611686018427387904:=hk
  have m0:=Qn (z.2.1) hz0.2.1 (k:=k'+1) (by omega)
  simp only
  rw[if_pos (by simp[bf];omega),aI (by omega) (by rw[bf];omega),he]
  simp only[jg,aa,bne_self_eq_false,Bool.false_eq_true,if_false,Nc,af (show i<9223372036854775807 by omega),af (show k'<9223372036854775807 by omega),af (show k'+1+smk cN (z.2.1)<9223372036854775807 by omega),m0]
  have e:k'+bt z=k'+1+smk cN (z.2.1)+1:=by unfold bt;omega
  rw[e]) (fun k'=>by
  unfold eE
  simp only
  rw[if_neg (by simp[bf])]))]
def bu (x:Int×Int×Int):Nat:=1+1+1
def jh (x:Int×Int×Int) (k:Nat):Int×Int×Int:=(((k:Nat):Int),((k+1:Nat):Int),((k+1+1:Nat):Int))
theorem Dx (xs:List Gv) (hx:Data.sm xs):smk bu xs<=1048576*3:=by
 obtain ⟨h1,h2⟩:=aC hx
 have b:=iK bu (B:=3) xs (fun x hx=>by
  simp[bu])
 exact Nat.le_trans b (Nat.mul_le_mul_right _ h1)
theorem Dy (xs:List Gv) (hx:Data.sm xs) {k:Nat} (hk:k+smk bu xs<=4611686018427387904):gx xs (k:Int)=some (((k+smk bu xs:Nat):Int),mkd bu jh xs k):=by
 obtain ⟨hN,hs⟩:=aC hx
 unfold gx
 rw[au (Dt (f:=eD) xs bu jh (by omega) hk (fun ys i k hi hl he hk=>by
  have hz0:=hs _ (cj (xs:=xs) (i:=(i:Int)) (by omega) (by omega))
  unfold eD
  have hi':i<ys.length:=by omega
  generalize hz:nth xs (i:Int)=z at *
  have hk':k+(1+1+1)<=4611686018427387904:=hk
  simp only
  rw[if_pos (by simp;omega),aI (by omega) (by omega),he]
  simp only[aa,Int.toNat_natCast,jA hi',List.set_set,af (show i<9223372036854775807 by omega),af (show k<9223372036854775807 by omega),af (show k+1<9223372036854775807 by omega),af (show k+1+1<9223372036854775807 by omega)]
  have e:k+bu z=k+1+1+1:=by unfold bu;omega
  rw[e];rfl) (fun ys k hl=>by
  unfold eD
  simp only
  rw[if_neg (by simp;omega)]))]
theorem Dz (xs:List Gv) (hx:Data.sm xs) {k:Nat} (hk:k+smk bu xs<=4611686018427387904):gz (mkd bu jh xs k) (k:Int)=some ((k+smk bu xs:Nat):Int):=by
 obtain ⟨hN,hs⟩:=aC hx
 unfold gz
 rw[au (FQ (f:=eF _) xs bu jh (by omega) hk (fun i k' hi he hk=>by
  have hz0:=hs _ (cj (xs:=xs) (i:=(i:Int)) (by omega) (by omega))
  unfold eF
  generalize hz:nth xs (i:Int)=z at *
  have hk':k'+(1+1+1)<=4611686018427387904:=hk
  simp only
  rw[if_pos (by simp[bf];omega),aI (by omega) (by rw[bf];omega),he]
  simp only[jh,aa,bne_self_eq_false,Bool.false_eq_true,if_false,Nc,af (show i<9223372036854775807 by omega),af (show k'<9223372036854775807 by omega),af (show k'+1<9223372036854775807 by omega),af (show k'+1+1<9223372036854775807 by omega)]
  have e:k'+bu z=k'+1+1+1:=by unfold bu;omega
  rw[e]) (fun k'=>by
  unfold eF
  simp only
  rw[if_neg (by simp[bf])]))]
def gL (x:Bool×Yq1):Nat:=1+1+1+1+1
def Cm (x:Bool×Yq1) (k:Nat):Bool×Yq1:=(((Int.tmod ((k:Nat):Int) 3)==0),(((k+1:Nat):Int),((k+1+1:Nat):Int),((k+1+1+1:Nat):Int),((k+1+1+1+1:Nat):Int)))
theorem Nd (xs:List (Bool×Yq1)) (hx:Data.sm xs):smk gL xs<=1048576*5:=by
 obtain ⟨h1,h2⟩:=aC hx
 have b:=iK gL (B:=5) xs (fun x hx=>by
  simp[gL])
 exact Nat.le_trans b (Nat.mul_le_mul_right _ h1)
theorem Nf (xs:List (Bool×Yq1)) (hx:Data.sm xs) {k:Nat} (hk:k+smk gL xs<=4611686018427387904):ln xs (k:Int)=some (((k+smk gL xs:Nat):Int),mkd gL Cm xs k):=by
 obtain ⟨hN,hs⟩:=aC hx
 unfold ln
 rw[au (Dt (f:=gV) xs gL Cm (by omega) hk (fun ys i k hi hl he hk=>by
  have hz0:=hs _ (cj (xs:=xs) (i:=(i:Int)) (by omega) (by omega))
  unfold gV
  have hi':i<ys.length:=by omega
  generalize hz:nth xs (i:Int)=z at *
  have hk':k+(1+1+1+1+1)<=4611686018427387904:=hk
  simp only
  rw[if_pos (by simp;omega),aI (by omega) (by omega),he]
  simp only[aa,Int.toNat_natCast,jA hi',List.set_set,af (show i<9223372036854775807 by omega),af (show k<9223372036854775807 by omega),af (show k+1<9223372036854775807 by omega),af (show k+1+1<9223372036854775807 by omega),af (show k+1+1+1<9223372036854775807 by omega),af (show k+1+1+1+1<9223372036854775807 by omega)]
  have e:k+gL z=k+1+1+1+1+1:=by unfold gL;omega
  rw[e];rfl) (fun ys k hl=>by
  unfold gV
  simp only
  rw[if_neg (by simp;omega)]))]
def cA (x:Int×(List Yq4)):Nat:=smk dN (x.2)
def xo (x:Int×(List Yq4)) (k:Nat):Int×(List Yq4):=(x.1,mkd dN um (x.2) (k))
theorem Ng (x:Int×(List Yq4)) (hx:Data.sm x):cA x<=5497558138880:=by
 have q0:=Qi (x.2) hx.2
 unfold cA;omega
theorem Nh (x:Int×(List Yq4)) (hx:Data.sm x) {k:Nat} (hk:k+cA x<=4611686018427387904):k9 x (k:Int)=some (((k+cA x:Nat):Int),xo x k):=by
 unfold cA at hk
 have m0:=Qj (x.2) hx.2 (k:=k) (by omega)
 unfold k9
 simp only[di,aa,m0]
 have e:k+cA x=k+smk dN (x.2):=by unfold cA;omega
 rw[e];rfl
theorem Ni (x:Int×(List Yq4)) (hx:Data.sm x) {k:Nat} (hk:k+cA x<=4611686018427387904):lf (xo x k) (k:Int)=some ((k+cA x:Nat):Int):=by
 unfold cA at hk
 have m0:=Qk (x.2) hx.2 (k:=k) (by omega)
 unfold lf xo
 simp only[di,aa,Bool.false_eq_true,if_false,Nc,m0]
 have e:k+cA x=k+smk dN (x.2):=by unfold cA;omega
 rw[e]
def cy (x:(List Yq2)×(List Yq3)):Nat:=smk br (x.1)+smk bt (x.2)
def uq (x:(List Yq2)×(List Yq3)) (k:Nat):(List Yq2)×(List Yq3):=(mkd br kq (x.1) (k),mkd bt jg (x.2) (k+smk br (x.1)))
theorem J6 (x:(List Yq2)×(List Yq3)) (hx:Data.sm x):cy x<=1152927002168131584:=by
 have q0:=FR (x.1) hx.1
 have q1:=Du (x.2) hx.2
 unfold cy;omega
theorem J7 (x:(List Yq2)×(List Yq3)) (hx:Data.sm x) {k:Nat} (hk:k+cy x<=4611686018427387904):jP x (k:Int)=some (((k+cy x:Nat):Int),uq x k):=by
 unfold cy at hk
 have m0:=FU (x.1) hx.1 (k:=k) (by omega)
 have m1:=Dv (x.2) hx.2 (k:=k+smk br (x.1)) (by omega)
 unfold jP
 simp only[di,aa,m0,m1]
 have e:k+cy x=k+smk br (x.1)+smk bt (x.2):=by unfold cy;omega
 rw[e];rfl
theorem J8 (x:(List Yq2)×(List Yq3)) (hx:Data.sm x) {k:Nat} (hk:k+cy x<=4611686018427387904):jT (uq x k) (k:Int)=some ((k+cy x:Nat):Int):=by
 unfold cy at hk
 have m0:=FV (x.1) hx.1 (k:=k) (by omega)
 have m1:=Dw (x.2) hx.2 (k:=k+smk br (x.1)) (by omega)
 unfold jT uq
 simp only[di,aa,Bool.false_eq_true,if_false,Nc,m0,m1]
 have e:k+cy x=k+smk br (x.1)+smk bt (x.2):=by unfold cy;omega
 rw[e]
def ji (x:Yq8×Yq6×Yq7×ByteArray):Nat:=cA (x.1)+cy (x.2.1)+smk bu (x.2.2.1)
def ur (x:Yq8×Yq6×Yq7×ByteArray) (k:Nat):Yq8×Yq6×Yq7×ByteArray:=(xo (x.1) (k),uq (x.2.1) (k+cA (x.1)),mkd bu jh (x.2.2.1) (k+cA (x.1)+cy (x.2.1)),x.2.2.2)
theorem Ik (x:Yq8×Yq6×Yq7×ByteArray) (hx:Data.sm x):ji x<=1152932499729416192:=by
 have q0:=Ng (x.1) hx.1
 have q1:=J6 (x.2.1) hx.2.1
 have q2:=Dx (x.2.2.1) hx.2.2.1
 unfold ji;omega
theorem Il (x:Yq8×Yq6×Yq7×ByteArray) (hx:Data.sm x) {k:Nat} (hk:k+ji x<=4611686018427387904):ff x (k:Int)=some (((k+ji x:Nat):Int),ur x k):=by
 unfold ji at hk
 have m0:=Nh (x.1) hx.1 (k:=k) (by omega)
 have m1:=J7 (x.2.1) hx.2.1 (k:=k+cA (x.1)) (by omega)
 have m2:=Dy (x.2.2.1) hx.2.2.1 (k:=k+cA (x.1)+cy (x.2.1)) (by omega)
 unfold ff
 simp only[di,aa,m0,m1,m2]
 have e:k+ji x=k+cA (x.1)+cy (x.2.1)+smk bu (x.2.2.1):=by unfold ji;omega
 rw[e];rfl
theorem Qo (x:Yq8×Yq6×Yq7×ByteArray) (hx:Data.sm x) {k:Nat} (hk:k+ji x<=4611686018427387904):gO (ur x k) (k:Int)=some ((k+ji x:Nat):Int):=by
 unfold ji at hk
 have m0:=Ni (x.1) hx.1 (k:=k) (by omega)
 have m1:=J8 (x.2.1) hx.2.1 (k:=k+cA (x.1)) (by omega)
 have m2:=Dz (x.2.2.1) hx.2.2.1 (k:=k+cA (x.1)+cy (x.2.1)) (by omega)
 unfold gO ur
 simp only[di,aa,Bool.false_eq_true,if_false,Nc,m0,m1,m2]
 have e:k+ji x=k+cA (x.1)+cy (x.2.1)+smk bu (x.2.2.1):=by unfold ji;omega
 rw[e]
def vY (x:Yq9):Nat:=smk gL (x)
def Xo (x:Yq9) (k:Nat):Yq9:=mkd gL Cm (x) (k)
theorem Tw (x:Yq9) (hx:Data.sm x):vY x<=5242880:=by
 have q0:=Nd (x) hx
 unfold vY;omega
theorem Tx (x:Yq9) (hx:Data.sm x) {k:Nat} (hk:k+vY x<=4611686018427387904):nM x (k:Int)=some (((k+vY x:Nat):Int),Xo x k):=by
 unfold vY at hk
 have m0:=Nf (x) hx (k:=k) (by omega)
 unfold nM
 simp only[di,aa,m0]
 have e:k+vY x=k+smk gL (x):=by unfold vY;omega
 rw[e];rfl
end D
namespace D
abbrev Pr:=Int×Int
def ltP (a b:Pr):Prop:=a.1<b.1\/a.1=b.1/\a.2<b.2
instance (a b:Pr):Decidable (ltP a b):=inferInstanceAs (Decidable (_\/_))
end D
namespace D
open Go.RowKit
theorem Qp {α R:Type} {f:Int->Option (Out R Int)} (l:List α) (b:α->Bool) (r:Nat->R) (hN:l.length<=9223372036854775807) (h: ∀i (hi:i<l.length),f (i:Int)=some (if b l[i] then .ret (r i) else .nxt ((i+1:Nat):Int))) (he:f (l.length:Int)=some (.brk (l.length:Int))) :
  (∃(i:Nat) (hi:i<l.length),b l[i] =true/\(∀j (hj:j<i),b (l[j]'(by omega))=false)/\ax f aV 0=some (.ret (r i)))\/((∀x,x∈l->b x=false)/\ax f aV 0=some (.brk (l.length:Int))):=by
 obtain ⟨o,e,hQ⟩:=cM (f:=f) (fun i s=>s=(i:Int)/\ ∀j (hj:j<l.length),j<i->b l[j] =false) (fun o=>(∃(i:Nat) (hi:i<l.length),b l[i] =true/\(∀j (hj:j<i),b (l[j]'(by omega))=false)/\o= .ret (r i))\/((∀x,x∈l->b x=false)/\o= .brk (l.length:Int))) l.length (fun i s hi hI=>by
  obtain ⟨rfl,hI⟩:=hI
  by_cases h1:i<l.length
  ·cases hb:b l[i] with
   | true=>exact .inr ⟨_,by rw[h i h1,hb,if_pos rfl],fun s' hh=>by simp at hh,.inl ⟨i,h1,hb,fun j hj=>hI j (by omega) hj,by simp⟩⟩
   | false=>exact .inl ⟨h1,_,by rw[h i h1,hb,if_neg (by simp)],rfl,fun j hj hji=>by
     by_cases c:j=i
     ·subst c;exact hb
     ·exact hI j hj (by omega)⟩
  ·obtain rfl:i=l.length:=by omega
   exact .inr ⟨_,he,fun s' hh=>by simp at hh,.inr ⟨fun x hx=>by
    obtain ⟨j,hj,rfl⟩:=List.getElem_of_mem hx
    exact hI j hj hj,rfl⟩⟩) (s:=0) ⟨rfl,fun j hj h0=>by omega⟩ (dB _ hN)
 rcases hQ with ⟨i,hi,h1,h2,rfl⟩ | ⟨h1,rfl⟩
 ·exact .inl ⟨i,hi,h1,h2,e⟩
 ·exact .inr ⟨h1,e⟩
section
variable {l m:List Pr} {p:Pr}
end
end D
namespace D
open Go.RowKit
end D
set_option synthInstance.maxSize 20000
set_option synthInstance.maxHeartbeats 2000000
namespace D
open Go.RowKit
end D
set_option synthInstance.maxSize 20000
set_option synthInstance.maxHeartbeats 2000000
namespace D
open Go.RowKit
def mkB (l:List UInt8):ByteArray:=⟨l.toArray⟩
theorem Xp (a b:List UInt8):mkB a++mkB b=mkB (a++b):=ByteArray.ext (by simp[mkB])
theorem bG (a:List UInt8):(mkB a).size=a.length:=by simp[mkB,ByteArray.size]
theorem fc (a:List UInt8):(mkB a).data.toList=a:=by simp[mkB]
theorem Em (a b:List UInt8) (h:a.length+b.length<=9223372036854775807):lZ (mkB a) (mkB b)=some (mkB (a++b)):=by
 unfold lZ chk
 rw[bG,bG,if_pos h,aa,Xp]
theorem abu: ∀d:Fin 10,IntKind.u8.wrap (IntKind.i64.wrap (48+(d.val:Int)))=48+(d.val:Int):=by decide
theorem abv {d:Nat} (h:d<10):yU [IntKind.u8.wrap (IntKind.i64.wrap (48+(d:Int)))] =mkB [UInt8.ofNat (48+d)]:=by
 rw[abu ⟨d,h⟩]
 show ByteArray.empty.push (UInt8.ofNat (48+(d:Int)).toNat)=_
 rw[show (48+(d:Int)).toNat=48+d by omega];rfl
theorem abw (m:Int):(if decide ((Int.tmod m 10)<0) then (some (IntKind.i64.wrap (-(Int.tmod m 10)))) else (some (Int.tmod m 10)):Option Int)=some ((m.natAbs % 10:Nat):Int):=by
 by_cases h:m<0
 ·obtain ⟨k,rfl⟩: ∃k:Nat,m= -(k:Int):=⟨m.natAbs,by omega⟩
  have e:Int.tmod (-(k:Int)) 10= -((k % 10:Nat):Int):=by rw[Int.neg_tmod];rfl
  rw[e,Int.natAbs_neg,Int.natAbs_natCast]
  by_cases h0:k % 10=0
  ·rw[h0];rfl
  ·rw[if_pos (decide_eq_true (by omega)),Int.neg_neg,fj (by omega) (by omega)]
 ·obtain ⟨k,rfl⟩: ∃k:Nat,m=(k:Int):=⟨m.natAbs,by omega⟩
  have e:Int.tmod (k:Int) 10=((k % 10:Nat):Int):=rfl
  rw[e,if_neg (by simp;omega),Int.natAbs_natCast]
theorem abg {m:Int} (h:I64 m):Rn m 10=m.tdiv 10/\(m.tdiv 10).natAbs=m.natAbs / 10:=by
 have k:(m.tdiv 10).natAbs=m.natAbs / 10:=Int.natAbs_tdiv m 10
 unfold I64 at h
 refine ⟨?_,k⟩
 unfold Rn
 exact fj (by omega) (by omega)
theorem Xq {m:Int} {out:List UInt8} (h0:m≠0) (h:I64 m) (hl:out.length<=1000):dC (m,mkB out)=some (.nxt (m.tdiv 10,mkB (UInt8.ofNat (48+m.natAbs % 10)::out))):=by
 unfold dC
 simp only[]
 rw[if_pos (by simpa using h0),abw,aa,abv (Nat.mod_lt _ (by omega)),Em _ _ (by simp;omega),aa,(abg h).1];rfl
theorem U1 (u:Nat):1<=Lib.nDigits u:=by
 by_cases h:u<10
 ·rw[Lib.nDigits_small h];omega
 ·rw[Lib.nDigits_big h];omega
theorem Qq: ∀(k:Nat) (m:Int) (out:List UInt8),m≠0->I64 m->Lib.nDigits m.natAbs<=k->out.length+Lib.nDigits m.natAbs<=100->ax dC (k+1) (m,mkB out)=some (.brk (0,mkB (Lib.decDigits m.natAbs++out)))
 | 0,m,out,_,_,h,_=>by have:=U1 m.natAbs;omega
 | k+1,m,out,h0,hm,h,hl=>by
  rw[ax,Xq h0 hm (by omega)]
  show ax dC (k+1) (m.tdiv 10,_)=_
  have hq:=(abg hm).2
  by_cases h1:m.natAbs<10
  ·have hz:m.tdiv 10=0:=by
    have:(m.tdiv 10).natAbs=0:=by rw[hq];omega
    omega
   rw[hz,ax]
   have:dC (0,mkB (UInt8.ofNat (48+m.natAbs % 10)::out))=some (.brk (0,mkB (UInt8.ofNat (48+m.natAbs % 10)::out))):=rfl
   rw[this,Lib.decDigits_one h1,Nat.mod_eq_of_lt h1];rfl
  ·have hz:m.tdiv 10≠0:=by
    intro e
    rw[e] at hq
    have:m.natAbs / 10=0:=by simpa using hq.symm
    omega
   have hn:=Lib.nDigits_big h1
   have hi:I64 (m.tdiv 10):=by unfold I64 at hm⊢;omega
   rw[Qq k _ _ hz hi (by rw[hq];omega) (by rw[hq,ak];omega),hq]
   have:Lib.decDigits m.natAbs=Lib.decDigits (m.natAbs / 10)++ [UInt8.ofNat (48+m.natAbs % 10)]:=by rw[Lib.decDigits,dif_neg h1]
   rw[this,ai];rfl
theorem rW {n:Int} (h:I64 n):(Lib.itoa n).length<=21:=Lib.itoa_length_le n h.1 h.2
theorem aay {n:Int} (h:I64 n):Lib.nDigits n.natAbs<=21:=by
 have:=rW h
 unfold Lib.itoa at this
 split at this
 ·rw[ak,Lib.decDigits_length] at this;omega
 ·rw[Lib.decDigits_length] at this
  rw[show n.natAbs=n.toNat by omega];exact this
theorem uu {n:Int} (h:I64 n):b7 n=some (mkB (Lib.itoa n)):=by
 unfold b7
 by_cases h0:n=0
 ·subst h0
  rw[if_pos (by rfl:((0:Int)==0)=true)]
  have:Lib.itoa 0= [48]:=by unfold Lib.itoa;rw[if_neg (by decide)];exact Lib.decDigits_one (by decide)
  rw[this];rfl
 rw[if_neg (by simpa using h0)]
 have hn:=aay h
 have hf:=dB 100 (by omega)
 obtain ⟨k,hk⟩: ∃k,aV=k+1:=⟨aV - 1,by omega⟩
 have hL:ax dC aV (n,(⟨#[]⟩:ByteArray))=some (.brk (0,mkB (Lib.decDigits n.natAbs++ []))):=by
  rw[hk];exact Qq k n [] h0 h (by omega) (by simp;omega)
 rw[au hL,List.append_nil]
 have hd:(Lib.decDigits n.natAbs).length<=21:=by rw[Lib.decDigits_length];exact hn
 unfold Lib.itoa
 by_cases h1:n<0
 ·rw[if_pos (decide_eq_true h1),if_pos h1]
  show (lZ (mkB [45]) _).bind _=_
  rw[Em _ _ (by simp;omega)];rfl
 ·rw[if_neg (by simpa using h1),if_neg h1,show n.natAbs=n.toNat by omega]
theorem xp {n:Int} (h:I64 n):dj n=some (mkB (Lib.itoa n)):=by
 unfold dj na R.Tb chk
 rw[if_pos (show -9223372036854775808<=n/\n<=9223372036854775807 from h)];rfl
theorem Qr (xs:List (List UInt8)) (y sep:List UInt8):Lib.join (xs++ [y]) sep=if xs= [] then y else Lib.join xs sep++sep++y:=by
 cases xs with
 | nil=>rw[if_pos rfl];exact Lib.join_one _ _
 | cons x r =>
  rw[if_neg (by simp),List.cons_append,Lib.join_cons,Lib.join_cons]
  simp[Lib.joinTail,ai]
end D
namespace D
open Go.RowKit
theorem Cn: ∀(a:List UInt8) (acc:Nat) (b:List UInt8),Lib.decFrom acc (a++b)=(Lib.decFrom acc a).bind fun m=>Lib.decFrom m b
 | [],acc,b=>rfl
 | x::a,acc,b=>by
  rw[List.cons_append,Lib.decFrom,Lib.decFrom]
  cases Lib.digitVal x with
  | none=>rfl
  | some d=>exact Cn a _ b
theorem Qs {d:Nat} (h:d<10):Lib.digitVal (UInt8.ofNat (48+d))=some d:=by
 have e:(UInt8.ofNat (48+d)).toNat=48+d:=by simp;omega
 unfold Lib.digitVal
 rw[e,if_pos ⟨by omega,by omega⟩]
 congr 1;omega
theorem Aq {u:Nat} (h: ¬u<10):Lib.decDigits u=Lib.decDigits (u / 10)++ [UInt8.ofNat (48+u % 10)]:=by rw[Lib.decDigits,dif_neg h]
theorem J9 (u:Nat):Lib.decFrom 0 (Lib.decDigits u)=some u:=by
 induction u using Nat.strongRecOn with
 | _ u ih =>
  by_cases h:u<10
  ·rw[Lib.decDigits_one h,Lib.decFrom,Qs h]
   simp[Lib.decFrom]
  ·rw[Aq h,Cn,ih (u / 10) (by omega),aa,Lib.decFrom,Qs (Nat.mod_lt _ (by omega))]
   simp only[Lib.decFrom]
   congr 1;omega
theorem Y2 (u:Nat):Lib.decDigits u≠ []:=fun h=>by
 have:=Lib.decDigits_length u
 rw[h] at this
 have:=U1 u
 simp at *;omega
theorem En (u:Nat):Lib.decNat (Lib.decDigits u)=some u:=by
 unfold Lib.decNat
 rw[if_neg (by simpa using Y2 u),J9]
theorem LH (u:Nat): ∃d r,d<10/\Lib.decDigits u=UInt8.ofNat (48+d)::r:=by
 induction u using Nat.strongRecOn with
 | _ u ih =>
  by_cases h:u<10
  ·exact ⟨u,[],h,Lib.decDigits_one h⟩
  ·obtain ⟨d,r,hd,e⟩:=ih (u / 10) (by omega)
   exact ⟨d,_,hd,by rw[Aq h,e];rfl⟩
theorem Ka {d:Nat} (h:d<10):(UInt8.ofNat (48+d)==45)=false/\(UInt8.ofNat (48+d)==43)=false:=by
 have: ∀d:Fin 10,(UInt8.ofNat (48+d.val)==45)=false/\(UInt8.ofNat (48+d.val)==43)=false:=by decide
 exact this ⟨d,h⟩
theorem Qt (n:Int):Lib.atoi (Lib.itoa n)=some n:=by
 unfold Lib.itoa
 by_cases h:n<0
 ·rw[if_pos h]
  show (Lib.decNat (Lib.decDigits n.natAbs)).map (fun (m:Nat)=> -(m:Int))=_
  rw[En]
  simp;omega
 ·rw[if_neg h]
  obtain ⟨d,r,hd,e⟩:=LH n.toNat
  have k:=En n.toNat
  rw[e] at k⊢
  show (if (UInt8.ofNat (48+d)==45)=true then _ else if (UInt8.ofNat (48+d)==43)=true then _ else _)=_
  rw[if_neg (by rw[(Ka hd).1];decide),if_neg (by rw[(Ka hd).2];decide),k]
  simp;omega
def dst (p:Nat×Nat) (b:UInt8):Nat×Nat:=if 48<=b.toNat/\b.toNat<=57 then (p.1*10+(b.toNat - 48),p.2+1) else p
theorem Qu {d:Nat} (h:d<10) (p:Nat×Nat):dst p (UInt8.ofNat (48+d))=(p.1*10+d,p.2+1):=by
 have e:(UInt8.ofNat (48+d)).toNat=48+d:=by simp;omega
 unfold dst
 rw[e,if_pos ⟨by omega,by omega⟩,show 48+d - 48=d by omega]
theorem Qv (u:Nat):(Lib.decDigits u).foldl dst (0,0)=(u,Lib.nDigits u):=by
 induction u using Nat.strongRecOn with
 | _ u ih =>
  by_cases h:u<10
  ·rw[Lib.decDigits_one h,List.foldl_cons,List.foldl_nil,Qu h,Lib.nDigits_small h];simp
  ·rw[Aq h,List.foldl_append,ih (u / 10) (by omega),List.foldl_cons,List.foldl_nil,Qu (Nat.mod_lt _ (by omega)),Lib.nDigits_big h]
   congr 1
   show u / 10*10+u % 10=u
   omega
theorem Tz (n:Int):(Lib.itoa n).foldl dst (0,0)=(n.natAbs,Lib.nDigits n.natAbs):=by
 unfold Lib.itoa
 split
 ·rw[List.foldl_cons,show dst (0,0) 45=(0,0) from rfl,Qv]
 ·rw[Qv,show n.toNat=n.natAbs by omega]
theorem U2: ∀(l:List UInt8) (p:Nat×Nat),p.1<10 ^ p.2->(l.foldl dst p).1<10 ^ (l.foldl dst p).2
 | [],p,h=>h
 | b::l,p,h=>by
  rw[List.foldl_cons]
  refine U2 l _ ?_
  unfold dst
  split
  ·rename_i k
   show p.1*10+(b.toNat - 48)<10 ^ (p.2+1)
   rw[Nat.pow_succ];omega
  ·exact h
theorem U3: ∀(l:List UInt8) (p:Nat×Nat),(l.foldl dst p).2<=p.2+l.length
 | [],p=>by simp
 | b::l,p=>by
  rw[List.foldl_cons]
  have:=U3 l (dst p b)
  have h:(dst p b).2<=p.2+1:=by unfold dst;split <;> simp
  rw[ak];omega
end D
namespace D
open Go.RowKit
theorem Y3: ∀(k u:Nat),1<=k->u<10 ^ k->Lib.nDigits u<=k
 | 0,u,h,_=>by omega
 | k+1,u,_,h=>by
  by_cases h1:u<10
  ·rw[Lib.nDigits_small h1];omega
  ·rw[Lib.nDigits_big h1]
   rw[Nat.pow_succ] at h
   have hk:1<=k:=by
    rcases k with _ | k
    ·simp at h;omega
    ·omega
   have:=Y3 k (u / 10) hk (by omega)
   omega
theorem u8W: ∀d:Fin 10,IntKind.i64.wrap (IntKind.u8.wrap (d.val:Int))=(d.val:Int):=by decide
theorem Ar {s:ByteArray} {i:Nat} (h:i<s.size):j7 s (i:Int)=some (((s.data.toList[i]'(by simpa using h)).toNat:Nat):Int):=by
 unfold j7 chk
 rw[if_pos ⟨by omega,by omega⟩]
 simp only[aa]
 rw[show (i:Int).toNat=i by omega,List.getD_eq_getElem?_getD,List.getElem?_eq_getElem (by simpa using h)]
 rfl
def dtk (s:ByteArray) (i:Nat):Nat×Nat:=(s.data.toList.take i).foldl dst (0,0)
theorem Qw (s:ByteArray) (i:Nat):(dtk s i).1<10 ^ (dtk s i).2/\(dtk s i).2<=i:=by
 refine ⟨U2 _ _ (by decide),?_⟩
 have:=U3 (s.data.toList.take i) (0,0)
 rw[ay] at this
 unfold dtk
 omega
theorem Xr (s:ByteArray):ax (ix s) aV (0,0,0)=some (.brk (((dtk s (min s.size 11)).1:Int),((dtk s (min s.size 11)).2:Int),((min s.size 11:Nat):Int))):=by
 refine bm (f:=ix s) (fun i=>(((dtk s i).1:Int),((dtk s i).2:Int),(i:Int))) (min s.size 11) (fun i hi=>?_) ?_ (dB _ (by omega))
 ·have h1:i<s.size:=by omega
  have hl:i<s.data.toList.length:=by simpa using h1
  have hd:dtk s (i+1)=dst (dtk s i) (s.data.toList[i]):=by
   unfold dtk
   rw[List.take_succ_eq_append_getElem hl,List.foldl_append];rfl
  obtain ⟨b1,b2⟩:=Qw s i
  have b3:10 ^ (dtk s i).2<=10 ^ 10:=Nat.pow_le_pow_right (by omega) (by omega)
  unfold ix
  simp only[]
  rw[if_pos (decide_eq_true (by omega)),if_pos (decide_eq_true (by omega)),Ar h1,hd]
  generalize s.data.toList[i] =b
  generalize dtk s i=p at *
  simp only[aa]
  unfold dst
  by_cases c1:48<=b.toNat
  ·rw[if_pos (decide_eq_true (by omega))]
   by_cases c2:b.toNat<=57
   ·rw[if_pos (decide_eq_true (by omega)),if_pos ⟨c1,c2⟩]
    obtain ⟨d,hd,e⟩: ∃d,d<10/\b.toNat=48+d:=⟨b.toNat - 48,by omega,by omega⟩
    rw[e,show ((48+d:Nat):Int) - 48=(d:Int) by omega,u8W ⟨d,hd⟩]
    simp only[aa]
    rw[fj (n:=(p.1:Int)*10) (by omega) (by omega),fj (by show _<=_+(d:Int);omega) (by show _+(d:Int)<=_;omega),af (by omega),af (by omega)]
    congr 4
    show (p.1:Int)*10+(d:Int)=((p.1*10+(48+d - 48):Nat):Int)
    omega
   ·rw[if_neg (by simp;omega),if_neg (by omega)]
    simp only[aa]
    rw[af (by omega)]
  ·rw[if_neg (by simp;omega),if_neg (by omega)]
   simp only[aa]
   rw[af (by omega)]
 ·unfold ix
  simp only[]
  by_cases h:s.size<=11
  ·rw[Nat.min_eq_left h,if_neg (by simp)]
  ·rw[Nat.min_eq_right (by omega),if_pos (decide_eq_true (by omega)),if_neg (by simp)]
def sgn (s:ByteArray):Int:=if s.data.toList.head? =some 45 then -((dtk s (min s.size 11)).1:Int) else ((dtk s (min s.size 11)).1:Int)
theorem U4 (s:ByteArray):(sgn s).natAbs<10 ^ (dtk s (min s.size 11)).2/\(sgn s).natAbs<10 ^ 11:=by
 obtain ⟨b1,b2⟩:=Qw s (min s.size 11)
 have b3:10 ^ (dtk s (min s.size 11)).2<=10 ^ 11:=Nat.pow_le_pow_right (by omega) (by omega)
 have:(sgn s).natAbs=(dtk s (min s.size 11)).1:=by unfold sgn;split <;> omega
 omega
theorem U5 (s:ByteArray):fV s=if 9<(dtk s (min s.size 11)).2\/10<s.size then some (0,false) else if mkB (Lib.itoa (sgn s))=s then some (sgn s,true) else some (0,false):=by
 have hs:=(U4 s).2
 have hi:I64 (sgn s):=by unfold I64;omega
 obtain ⟨b1,b2⟩:=Qw s (min s.size 11)
 have b3:10 ^ (dtk s (min s.size 11)).2<=10 ^ 11:=Nat.pow_le_pow_right (by omega) (by omega)
 have fin: ∀z:Int,z=sgn s->(if decide (((dtk s (min s.size 11)).2:Int)>9) then (some (0,false)) else (if decide (((s.size:Nat):Int)>10) then (some (0,false)) else ((b7 z).bind fun r10=>if r10 !=s then (some (0,false)) else (some (z,true)))):Option (Int×Bool))=if 9<(dtk s (min s.size 11)).2\/10<s.size then some (0,false) else if mkB (Lib.itoa (sgn s))=s then some (sgn s,true) else some (0,false):=by
  rintro z rfl
  by_cases c1:9<(dtk s (min s.size 11)).2
  ·rw[if_pos (decide_eq_true (by omega)),if_pos (Or.inl c1)]
  ·rw[if_neg (by simp;omega)]
   by_cases c2:10<s.size
   ·rw[if_pos (decide_eq_true (by omega)),if_pos (Or.inr c2)]
   ·rw[if_neg (by simp;omega),if_neg (by omega),uu hi,aa]
    by_cases c3:mkB (Lib.itoa (sgn s))=s
    ·rw[if_pos c3,if_neg (by simp[c3])]
    ·rw[if_neg c3,if_pos (by simpa using c3)]
 unfold fV
 rw[au (Xr s)]
 simp only[]
 by_cases h0:0<s.size
 ·rw[if_pos (decide_eq_true (by omega))]
  have hl:0<s.data.toList.length:=by simpa using h0
  have e0:j7 s 0=some (((s.data.toList[0]).toNat:Nat):Int):=Ar (i:=0) h0
  have eh:s.data.toList.head? =some s.data.toList[0]:=by rw[List.head?_eq_getElem?,List.getElem?_eq_getElem hl]
  rw[e0,aa]
  by_cases c:s.data.toList[0] =45
  ·rw[if_pos (by rw[c];rfl),aa,fj (by omega) (by omega)]
   exact fin _ (by unfold sgn;rw[eh,if_pos (by rw[c])])
  ·have hn:(s.data.toList[0]).toNat≠45:=fun e=>c (UInt8.toNat_inj.1 e)
   rw[if_neg (fun e=>hn (by have:=eq_of_beq e;omega)),aa]
   exact fin _ (by unfold sgn;rw[eh,if_neg (by simpa using c)])
 ·rw[if_neg (by rw[decide_eq_true_eq];omega)]
  have he:s.data.toList.head? =none:=by
   have:s.data.toList= []:=List.eq_nil_of_length_eq_zero (by
    have:s.data.toList.length=s.size:=by simp
    omega)
   rw[this];rfl
  exact fin _ (by unfold sgn;rw[he,if_neg (by simp)])
theorem TA {n:Int} (h: -999999999<=n/\n<=999999999):Lib.nDigits n.natAbs<=9/\(Lib.itoa n).length<=10:=by
 have k:Lib.nDigits n.natAbs<=9:=Y3 9 _ (by omega) (by omega)
 refine ⟨k,?_⟩
 unfold Lib.itoa
 split
 ·rw[ak,Lib.decDigits_length];omega
 ·rw[Lib.decDigits_length,show n.toNat=n.natAbs by omega];omega
theorem Qx (n:Int):((Lib.itoa n).head? =some 45)↔n<0:=by
 unfold Lib.itoa
 split
 ·rename_i h;simp[h]
 ·rename_i h
  obtain ⟨d,r,hd,e⟩:=LH n.toNat
  rw[e]
  have:=(Ka hd).1
  simp only[List.head?_cons,Option.some.injEq]
  constructor
  ·intro k;rw[k] at this;simp at this
  ·intro k;omega
theorem FW {n:Int} (h: -999999999<=n/\n<=999999999):fV (mkB (Lib.itoa n))=some (n,true)/\fX (mkB (Lib.itoa n))=some (n,true):=by
 obtain ⟨h9,h10⟩:=TA h
 constructor
 ·have ed:dtk (mkB (Lib.itoa n)) (min (mkB (Lib.itoa n)).size 11)=(n.natAbs,Lib.nDigits n.natAbs):=by
   unfold dtk
   rw[fc,bG,Nat.min_eq_left (by omega),List.take_length,Tz]
  have es:sgn (mkB (Lib.itoa n))=n:=by
   unfold sgn
   rw[ed,fc]
   by_cases c:n<0
   ·rw[if_pos ((Qx n).2 c)];show -(n.natAbs:Int)=n;omega
   ·rw[if_neg fun k=>c ((Qx n).1 k)];show (n.natAbs:Int)=n;omega
  rw[U5,ed,es,bG,if_neg (by show¬(9<Lib.nDigits n.natAbs\/_);omega),if_pos rfl]
 ·unfold fX R.sF
  rw[bG,fc,if_neg (by omega),Qt]
  show (if _ then _ else _)=_
  rw[if_pos ⟨rfl,h.1,h.2⟩]
theorem LI {s:ByteArray} (h: ¬ ∃n:Int,(-999999999<=n/\n<=999999999)/\s=mkB (Lib.itoa n)):fV s=some (0,false)/\fX s=some (0,false):=by
 constructor
 ·rw[U5]
  by_cases c:9<(dtk s (min s.size 11)).2\/10<s.size
  ·rw[if_pos c]
  ·rw[if_neg c,if_neg]
   intro e
   have b1:=(U4 s).1
   have b3:10 ^ (dtk s (min s.size 11)).2<=10 ^ 9:=Nat.pow_le_pow_right (by omega) (by omega)
   exact h ⟨sgn s,by omega,e.symm⟩
 ·unfold fX R.sF
  by_cases c:10<s.size
  ·rw[if_pos c]
  ·rw[if_neg c]
   cases ha:Lib.atoi s.data.toList with
   | none=>rfl
   | some n =>
    show (if _ then _ else _)=_
    rw[if_neg fun k=>h ⟨n,k.2,k.1.symm⟩]
theorem rq (s:ByteArray): ∃r:Int×Bool,fV s=some r/\fX s=some r/\((r.2=true/\(-999999999<=r.1/\r.1<=999999999)/\s=mkB (Lib.itoa r.1))\/r=(0,false)):=by
 by_cases h: ∃n:Int,(-999999999<=n/\n<=999999999)/\s=mkB (Lib.itoa n)
 ·obtain ⟨n,hn,rfl⟩:=h
  exact ⟨_,(FW hn).1,(FW hn).2,.inl ⟨rfl,hn,rfl⟩⟩
 ·exact ⟨_,(LI h).1,(LI h).2,.inr rfl⟩
end D
namespace D
open Go.RowKit
abbrev AutT:=Int×(List Bool)×(List (List Int))
structure VA (a:AutT) (n:Nat):Prop where
 len:a.2.1.length=n
 start:0<=a.1/\a.1<n
 nlen:a.2.2.length=n
 row: ∀r∈a.2.2,r.length=9
 ent: ∀r∈a.2.2,∀t∈r,-1<=t/\t<n
def mv (a:AutT) (s:Int) (k:Nat):Int:=nth (nth a.2.2 s) k
theorem NC (x l h:Int):cR x l h=some (decide (l<=x/\x<=h)):=by
 unfold cR
 by_cases c:l<=x
 ·simp[c]
 ·have: ¬l<=x/\True:=⟨c,trivial⟩
  simp[c]
theorem IC (x l h:Int):b8 x l h=some (decide (l<=x/\x<=h)):=by
 unfold b8
 by_cases c:l<=x
 ·simp[c]
 ·simp[c]
theorem scan {α R:Type} [Inhabited α] {f:Int->Option (Out R Int)} (xs:List α) (p:α->Prop) [DecidablePred p] (r:R) (hN:xs.length<=9223372036854775807)
  (h: ∀i:Nat,i<xs.length->f (i:Int)=some (if p (nth xs i) then .nxt ((i+1:Nat):Int) else .ret r)) (he:f (xs.length:Int)=some (.brk (xs.length:Int))) :
  (ax f aV 0=some (.brk (xs.length:Int))/\ ∀x∈xs,p x)\/(ax f aV 0=some (.ret r)/\ ¬ ∀x∈xs,p x):=by
 obtain ⟨o,e,hq⟩:=cM (f:=f) (fun i s=>s=(i:Int)/\ ∀j:Nat,j<i->p (nth xs j)) (fun o=>(o= .brk (xs.length:Int)/\ ∀x∈xs,p x)\/(o= .ret r/\ ¬ ∀x∈xs,p x)) xs.length (s:=0) (by
  rintro i s hi ⟨rfl,hp⟩
  by_cases hl:i<xs.length
  ·by_cases c:p (nth xs i)
   ·refine .inl ⟨hl,_,by rw[h i hl,if_pos c],rfl,fun j hj=>?_⟩
    by_cases e:j=i
    ·subst e;exact c
    ·exact hp j (by omega)
   ·refine .inr ⟨_,by rw[h i hl,if_neg c],(fun s' e=>by cases e),.inr ⟨rfl,fun hx=>c (hx _ (cj (by omega) (by omega)))⟩⟩
  ·obtain rfl:i=xs.length:=by omega
   refine .inr ⟨_,he,(fun s' e=>by cases e),.inl ⟨rfl,fun x hx=>?_⟩⟩
   obtain ⟨j,hj,rfl⟩:=J5 hx
   exact hp j hj) ⟨rfl,by omega⟩ (vi hN)
 rcases hq with ⟨rfl,hq⟩ | ⟨rfl,hq⟩
 ·exact .inl ⟨e,hq⟩
 ·exact .inr ⟨e,hq⟩
section
variable {a:AutT} {n:Nat} (V:VA a n)
include V
theorem VA.pos:0<n:=by have:=V.start;omega
theorem VA.rowAt {s:Int} (h0:0<=s) (h1:s<n):(nth a.2.2 s).length=9:=V.row _ (cj h0 (by rw[V.nlen];exact h1))
theorem VA.mv {s:Int} {k:Nat} (h0:0<=s) (h1:s<n) (hk:k<9): -1<=mv a s k/\mv a s k<n:=
 V.ent _ (cj h0 (by rw[V.nlen];exact h1)) _ (cj (by omega) (by rw[V.rowAt h0 h1];omega))
theorem VA.get {s:Int} (h0:0<=s) (h1:s<n):aQ a.2.2 s=some (nth a.2.2 s):=aI h0 (by rw[V.nlen];exact h1)
theorem VA.get2 {s:Int} {k:Nat} (h0:0<=s) (h1:s<n) (hk:k<9):aQ (nth a.2.2 s) (k:Int)=some (D.mv a s k):=aI (by omega) (by rw[V.rowAt h0 h1];omega)
theorem VA.acc {s:Int} (h0:0<=s) (h1:s<n):aQ a.2.1 s=some (nth a.2.1 s):=aI h0 (by rw[V.len];exact h1)
theorem Y4 {s:Int} {k:Nat} (h0:0<=s) (h1:s<n) (hk:k<9):eW a s (k:Int)=some (mv a s k):=by
 unfold eW ke
 rw[if_neg (by simp;omega),IC];simp only[aa]
 rw[if_pos (by simp;omega),V.get h0 h1];simp only[aa]
 rw[V.get2 h0 h1 hk];rfl
end
end D
namespace D
open Go.RowKit
theorem FX (s:ByteArray):fU s=kh s:=by
 have e:fN s=ox s:=by
  funext p
  unfold fN ox
  rw[Int.mul_comm p.1 257]
 unfold fU kh
 rw[e]
theorem Im (s:ByteArray) (h:s.size<=9223372036854775806): ∃r:Int,fU s=some r/\kh s=some r/\0<=r/\r<=9972:=by
 obtain ⟨p,e,h1,h2,h3⟩:=oR (f:=fN s) (fun i p=>p.2=(i:Int)/\0<=p.1/\p.1<=9972) s.size (fun i p hi hI=>by
  obtain ⟨n,j⟩:=p
  obtain ⟨h1,h2,h3⟩:=hI
  simp only at h1 h2 h3
  subst h1
  unfold fN
  simp only[]
  rw[if_pos (decide_eq_true (by omega)),Ar hi]
  simp only[aa]
  generalize s.data.toList[i] =b
  have hb:b.toNat<256:=b.toNat_lt
  rw[fj (n:=((b.toNat:Nat):Int)) (by omega) (by omega),fj (n:=n*257) (by omega) (by omega),fj (n:=n*257+(b.toNat:Int)) (by omega) (by omega),fj (n:=n*257+(b.toNat:Int)+1) (by omega) (by omega),af (by omega)]
  refine ⟨_,rfl,rfl,?_,?_⟩
  ·exact Int.tmod_nonneg _ (by omega)
  ·have:Int.tmod (n*257+(b.toNat:Int)+1) 9973<9973:=Int.tmod_lt_of_pos _ (by decide)
   show Int.tmod (n*257+(b.toNat:Int)+1) 9973<=9972
   omega) (fun p hI=>by
  obtain ⟨n,j⟩:=p
  obtain ⟨h1,-⟩:=hI
  simp only at h1
  subst h1
  unfold fN
  simp only[]
  rw[if_neg (by simp)]) (s:=(1,0)) ⟨rfl,by decide,by decide⟩ (dB _ (by omega))
 have k:fU s=some p.1:=by
  unfold fU
  rw[au e]
 exact ⟨p.1,k,by rw[<-FX];exact k,h2,h3⟩
def edOk (e:Int×Int×Int×Int):Prop:=(1<=e.1/\e.1<=99)/\(0<=e.2.1/\e.2.1<=4)/\(0<=e.2.2.1/\e.2.2.1<=4)/\(0<=e.2.2.2/\e.2.2.2<=2)
instance (e:Int×Int×Int×Int):Decidable (edOk e):=inferInstanceAs (Decidable (_/\_))
def tI (e:Int×Int×Int×Int):List UInt8:=Lib.itoa e.1++ [58] ++Lib.itoa e.2.1++ [UInt8.ofNat (97+e.2.2.2.toNat)] ++Lib.itoa e.2.2.1
theorem TC: ∀k:Fin 3,eN (IntKind.i64.wrap (2*(k.val:Int)))=some (mkB [UInt8.ofNat (97+k.val)]):=by
 intro k
 match k with
 | ⟨0,_⟩=>rfl
 | ⟨1,_⟩=>rfl
 | ⟨2,_⟩=>rfl
theorem TE: ∀k:Fin 3,rY (⟨#[97,98,99]⟩) (k.val:Int) (IntKind.i64.wrap ((k.val:Int)+1))=some (mkB [UInt8.ofNat (97+k.val)]):=by
 intro k
 match k with
 | ⟨0,_⟩=>rfl
 | ⟨1,_⟩=>rfl
 | ⟨2,_⟩=>rfl
theorem Qy (e:Int×Int×Int×Int):jv e=some (if edOk e then mkB (tI e) else mkB []):=by
 unfold jv
 rw[NC,NC,NC,NC]
 simp only[aa]
 by_cases h:edOk e
 ·obtain ⟨h1,h2,h3,h4⟩:=h
  rw[if_pos (decide_eq_true h1),if_pos (decide_eq_true h2),if_pos (decide_eq_true h3),if_pos (decide_eq_true h4),if_pos ⟨h1,h2,h3,h4⟩]
  have i1:I64 e.1:=by unfold I64;omega
  have i2:I64 e.2.1:=by unfold I64;omega
  have i3:I64 e.2.2.1:=by unfold I64;omega
  have n1:=rW i1
  have n2:=rW i2
  have n3:=rW i3
  obtain ⟨k,hk,ek⟩: ∃k:Nat,k<3/\e.2.2.2=(k:Int):=⟨e.2.2.2.toNat,by omega,by omega⟩
  rw[uu i1,uu i2,uu i3,ek,TC ⟨k,hk⟩]
  simp only[aa]
  have c1:lZ (mkB (Lib.itoa e.1)) (⟨#[58]⟩)=some (mkB (Lib.itoa e.1++ [58])):=Em _ [58] (by simp;omega)
  rw[c1]
  simp only[aa]
  rw[Em _ _ (by simp;omega)]
  simp only[aa]
  rw[Em _ _ (by simp;omega)]
  simp only[aa]
  rw[Em _ _ (by simp;omega)]
  simp only[aa]
  unfold tI
  rw[ek];rfl
 ·rw[if_neg h]
  split
  ·split
   ·split
    ·split
     ·rename_i a b c d
      exact absurd ⟨of_decide_eq_true a,of_decide_eq_true b,of_decide_eq_true c,of_decide_eq_true d⟩ h
     ·rfl
    ·rfl
   ·rfl
  ·rfl
theorem Qz (e:Int×Int×Int×Int):jw e=some (if edOk e then mkB (tI e) else mkB []):=by
 have h5:IntKind.i64.wrap (5 - 1)=4:=by decide
 have hok:fP (e.1,e.2.1,e.2.2.1,e.2.2.2) 5=some (decide (edOk e)):=by
  unfold fP
  rw[h5,IC,IC,IC,IC]
  simp only[aa]
  by_cases h1:1<=e.1/\e.1<=99
  ·rw[if_pos (decide_eq_true h1)]
   by_cases h2:0<=e.2.1/\e.2.1<=4
   ·rw[if_pos (decide_eq_true h2)]
    by_cases h3:0<=e.2.2.1/\e.2.2.1<=4
    ·rw[if_pos (decide_eq_true h3)]
     congr 1
     exact decide_eq_decide.2 ⟨fun h4=>⟨h1,h2,h3,h4⟩,fun h=>h.2.2.2⟩
    ·rw[if_neg (by simpa using h3),decide_eq_false (fun h:edOk e=>h3 h.2.2.1)]
   ·rw[if_neg (by simpa using h2),decide_eq_false (fun h:edOk e=>h2 h.2.1)]
  ·rw[if_neg (by simpa using h1),decide_eq_false (fun h:edOk e=>h1 h.1)]
 unfold jw
 rw[hok]
 simp only[aa]
 by_cases h:edOk e
 ·rw[if_pos (decide_eq_true h),if_pos h]
  obtain ⟨h1,h2,h3,h4⟩:=h
  have i1:I64 e.1:=by unfold I64;omega
  have i2:I64 e.2.1:=by unfold I64;omega
  have i3:I64 e.2.2.1:=by unfold I64;omega
  have n1:=rW i1
  have n2:=rW i2
  have n3:=rW i3
  obtain ⟨k,hk,ek⟩: ∃k:Nat,k<3/\e.2.2.2=(k:Int):=⟨e.2.2.2.toNat,by omega,by omega⟩
  rw[xp i1,xp i2,xp i3,ek,TE ⟨k,hk⟩]
  simp only[aa]
  have c1:lZ (mkB (Lib.itoa e.1)) (⟨#[58]⟩)=some (mkB (Lib.itoa e.1++ [58])):=Em _ [58] (by simp;omega)
  rw[c1]
  simp only[aa]
  rw[Em _ _ (by simp;omega)]
  simp only[aa]
  rw[Em _ _ (by simp;omega)]
  simp only[aa]
  rw[Em _ _ (by simp;omega)]
  simp only[aa]
  unfold tI
  rw[ek];rfl
 ·rw[if_neg (by simpa using h),if_neg h];rfl
end D
namespace D
open Go.RowKit
abbrev ChT:Type:=Bool×Int×Int×Int×Int
def pO (c:ChT):List UInt8:=(if c.1 then 43 else 45)::tI c.2
def btx (l:List ChT):List UInt8:=Lib.join (l.map pO) [32]
def As (l:List ChT):Prop:= ∀c,c∈l->edOk c.2
theorem uv {e:Int×Int×Int×Int} (h:edOk e):(tI e).length<=70:=by
 obtain ⟨h1,h2,h3,h4⟩:=h
 have n1:=rW (n:=e.1) (by unfold I64;omega)
 have n2:=rW (n:=e.2.1) (by unfold I64;omega)
 have n3:=rW (n:=e.2.2.1) (by unfold I64;omega)
 unfold tI
 simp only[al,ak,aF];omega
theorem QA (e:Int×Int×Int×Int):(mkB (tI e)==(⟨#[]⟩:ByteArray))=false:=by
 rw[beq_eq_false_iff_ne]
 intro k
 have:=congrArg ByteArray.size k
 rw[bG] at this
 unfold tI at this
 simp only[al,ak,aF] at this
 have e0:(⟨#[]⟩:ByteArray).size=0:=rfl
 omega
theorem QB: ∀(r:List ChT),As r->(Lib.joinTail [32] (r.map pO)).length<=72*r.length
 | [],_=>by simp[Lib.joinTail]
 | c::r,h=>by
  have h1:=QB r fun q hq=>h q (bj _ hq)
  have h2:=uv (h c (by simp))
  have e:Lib.joinTail [32] ((c::r).map pO)=([32] ++pO c)++Lib.joinTail [32] (r.map pO):=by simp[Lib.joinTail]
  rw[e,al,al,ak]
  unfold pO
  simp only[ak,aF]
  unfold pO at h1
  omega
theorem FY {l:List ChT} (h:As l):(btx l).length<=72*l.length:=by
 cases l with
 | nil=>simp[btx,Lib.join_nil]
 | cons c r =>
  have h1:=QB r fun q hq=>h q (bj _ hq)
  have h2:=uv (h c (by simp))
  unfold btx
  rw[List.map_cons,Lib.join_cons,al,ak]
  have:(pO c).length=(tI c.2).length+1:=by unfold pO;rw[ak]
  omega
theorem TG {l:List ChT} {i:Nat} (hi:i<l.length):btx (l.take (i+1))=if i=0 then pO l[i] else btx (l.take i)++ [32] ++pO l[i]:=by
 unfold btx
 rw[List.take_succ_eq_append_getElem hi,aP,List.map_cons,List.map_nil,Qr]
 by_cases h:i=0
 ·subst h;rw[if_pos (by simp),if_pos rfl]
 ·rw[if_neg (by
   intro e
   have:=congrArg List.length e
   rw[List.length_map,ay,aF] at this
   omega),if_neg h]
theorem Io {l:List ChT} {i:Nat} (hi:i<l.length) (h:As (l.take i)) (k:edOk l[i].2):As (l.take (i+1)):=by
 rw[List.take_succ_eq_append_getElem hi]
 intro c hc
 rcases aJ hc with hc | hc
 ·exact h c hc
 ·obtain rfl:=az hc;exact k
theorem Xs {l:List ChT} (hl:l.length<=6):(As l/\ax (eY l) aV (([] :List ByteArray),0)=some (.brk (l.map (fun c=>mkB (pO c)),(l.length:Int))))\/(¬As l/\ax (eY l) aV (([] :List ByteArray),0)=some (.ret (mkB []))):=by
 obtain ⟨o,e,hQ⟩:=cM (f:=eY l) (fun i s=>s=((l.take i).map (fun c=>mkB (pO c)),(i:Int))/\As (l.take i)) (fun o=>(As l/\o= .brk (l.map (fun c=>mkB (pO c)),(l.length:Int)))\/(¬As l/\o= .ret (mkB []))) l.length (fun i s hi hI=>by
  obtain ⟨rfl,hb⟩:=hI
  unfold eY
  simp only[]
  by_cases h1:i<l.length
  ·rw[bF h1,if_pos rfl,aB h1]
   simp only[aa]
   rw[Qz]
   simp only[aa]
   by_cases k:edOk l[i].2
   ·have n1:=uv k
    have c1:lZ (⟨#[43]⟩) (mkB (tI l[i].2))=some (mkB (43::tI l[i].2)):=Em [43] _ (by simp;omega)
    have c2:lZ (⟨#[45]⟩) (mkB (tI l[i].2))=some (mkB (45::tI l[i].2)):=Em [45] _ (by simp;omega)
    have hx: ∀z:ByteArray,cm 16 ((l.take i).map (fun c=>mkB (pO c))) [z] =some ((l.take i).map (fun c=>mkB (pO c))++ [z]):=fun z=>aK (by rw[List.length_map,ay];simp only[ak,aF];omega)
    refine .inl ⟨h1,((l.take (i+1)).map (fun c=>mkB (pO c)),((i+1:Nat):Int)),?_,rfl,Io h1 hb k⟩
    rw[if_pos k,if_neg (by rw[QA];decide),c1,c2]
    simp only[aa]
    rw[hx,hx,List.take_succ_eq_append_getElem h1,aP,List.map_cons,List.map_nil,<-af (show i<9223372036854775807 by omega)]
    have ec:pO l[i] =(if l[i].1=true then 43 else 45)::tI l[i].2:=rfl
    rw[ec]
    generalize l[i].1=t
    cases t <;> rfl
   ·refine .inr ⟨.ret (mkB []),?_,fun s' h=>(by simp at h),.inr ⟨fun h=>k (h _ (List.getElem_mem h1)),rfl⟩⟩
    rw[if_neg k];rfl
  ·obtain rfl:i=l.length:=by omega
   rw[List.take_length] at hb
   refine .inr ⟨_,by rw[ba];rfl,fun s' h=>(by simp at h),.inl ⟨hb,by rw[List.take_length]⟩⟩) (s:=([],0)) ⟨rfl,fun c hc=>by simp at hc⟩ (dB _ (by omega))
 rcases hQ with ⟨h,rfl⟩ | ⟨h,rfl⟩
 ·exact .inl ⟨h,e⟩
 ·exact .inr ⟨h,e⟩
theorem Xt {l:List ChT} (hl:l.length<=6):(As l/\ax (eT l) aV ((⟨#[]⟩:ByteArray),0)=some (.brk (mkB (btx l),(l.length:Int))))\/(¬As l/\ax (eT l) aV ((⟨#[]⟩:ByteArray),0)=some (.ret (mkB []))):=by
 obtain ⟨o,e,hQ⟩:=cM (f:=eT l) (fun i s=>s=(mkB (btx (l.take i)),(i:Int))/\As (l.take i)) (fun o=>(As l/\o= .brk (mkB (btx l),(l.length:Int)))\/(¬As l/\o= .ret (mkB []))) l.length (fun i s hi hI=>by
  obtain ⟨rfl,hb⟩:=hI
  have hn:=FY hb
  rw[ay] at hn
  unfold eT
  simp only[]
  by_cases h1:i<l.length
  ·rw[bF h1,if_pos rfl,aB h1]
   simp only[aa]
   rw[Qy]
   simp only[aa]
   by_cases k:edOk l[i].2
   ·have n1:=uv k
    refine .inl ⟨h1,(mkB (btx (l.take (i+1))),((i+1:Nat):Int)),?_,rfl,Io h1 hb k⟩
    rw[if_pos k,if_neg (by rw[QA];decide),TG h1,<-af (show i<9223372036854775807 by omega)]
    have ec:pO l[i] =(if l[i].1=true then 43 else 45)::tI l[i].2:=rfl
    rw[ec]
    generalize l[i].1=t
    have g1: ∀(a:List UInt8) (b:UInt8),a.length<=1000->lZ (mkB a) (mkB [b])=some (mkB (a++ [b])):=fun a b ha=>Em _ _ (by simp;omega)
    have g2: ∀(a:List UInt8) (b:UInt8),a.length<=1000->lZ (mkB (a++ [b])) (mkB (tI l[i].2))=some (mkB (a++b::tI l[i].2)):=fun a b ha=>by
     rw[Em _ _ (by simp;omega),ai];rfl
    by_cases h0:i=0
    ·subst h0
     have eb:btx (l.take 0)= []:=rfl
     have q1:=g1 [] 43 (by simp)
     have q2:=g1 [] 45 (by simp)
     have q3:=g2 [] 43 (by simp)
     have q4:=g2 [] 45 (by simp)
     have l1:(⟨#[43]⟩:ByteArray)=mkB [43]:=rfl
     have l2:(⟨#[45]⟩:ByteArray)=mkB [45]:=rfl
     rw[eb,if_pos rfl,if_neg (by simp)]
     simp only[aa]
     rw[l1,l2,q1,q2]
     simp only[aa]
     rw[q3,q4]
     cases t <;> rfl
    ·have hs:=g1 (btx (l.take i)) 32 (by omega)
     have q1:=g1 (btx (l.take i)++ [32]) 43 (by simp;omega)
     have q2:=g1 (btx (l.take i)++ [32]) 45 (by simp;omega)
     have q3:=g2 (btx (l.take i)++ [32]) 43 (by simp;omega)
     have q4:=g2 (btx (l.take i)++ [32]) 45 (by simp;omega)
     have l1:(⟨#[43]⟩:ByteArray)=mkB [43]:=rfl
     have l2:(⟨#[45]⟩:ByteArray)=mkB [45]:=rfl
     have l3:(⟨#[32]⟩:ByteArray)=mkB [32]:=rfl
     rw[if_neg h0,if_pos (decide_eq_true (by omega)),l1,l2,l3,hs]
     simp only[aa]
     rw[q1,q2]
     simp only[aa]
     rw[q3,q4]
     cases t <;> rfl
   ·refine .inr ⟨.ret (mkB []),?_,fun s' h=>(by simp at h),.inr ⟨fun h=>k (h _ (List.getElem_mem h1)),rfl⟩⟩
    rw[if_neg k];rfl
  ·obtain rfl:i=l.length:=by omega
   rw[List.take_length] at hb
   refine .inr ⟨_,by rw[ba];rfl,fun s' h=>(by simp at h),.inl ⟨hb,by rw[List.take_length]⟩⟩) (s:=((⟨#[]⟩:ByteArray),0)) ⟨rfl,fun c hc=>by simp at hc⟩ (dB _ (by omega))
 rcases hQ with ⟨h,rfl⟩ | ⟨h,rfl⟩
 ·exact .inl ⟨h,e⟩
 ·exact .inr ⟨h,e⟩
open Classical in
theorem uw (l:List ChT):cT l=some (if l.length<=6/\As l then mkB (btx l) else mkB [])/\dX l=some (if l.length<=6/\As l then mkB (btx l) else mkB []):=by
 unfold cT dX
 by_cases h6:l.length<=6
 ·have hd: ¬decide ((l.length:Int)>6)=true:=by rw[decide_eq_true_eq];omega
  constructor
  ·rw[if_neg hd]
   rcases Xt h6 with ⟨h,e⟩ | ⟨h,e⟩
   ·rw[au e,if_pos ⟨h6,h⟩]
   ·rw[cq e,if_neg fun k=>h k.2]
  ·rw[if_neg hd]
   rcases Xs h6 with ⟨h,e⟩ | ⟨h,e⟩
   ·have hn:=FY h
    rw[au e,if_pos ⟨h6,h⟩]
    show (jH (l.map fun p=>mkB (pO p)) (mkB [32])).bind _=_
    unfold jH R.Ta chk
    have e:(l.map fun p=>mkB (pO p)).map (·.data.toList)=l.map pO:=by
     rw[List.map_map]
     exact List.map_congr_left fun p _=>fc _
    rw[e,fc,List.length_map,if_pos ⟨by omega,by show (btx l).length<=_;omega⟩];rfl
   ·rw[cq e,if_neg fun k=>h k.2]
 ·have hd:decide ((l.length:Int)>6)=true:=decide_eq_true (by omega)
  constructor
  ·rw[if_pos hd,if_neg fun k=>h6 k.1];rfl
  ·rw[if_pos hd,if_neg fun k=>h6 k.1];rfl
end D
namespace D
open Go.RowKit
theorem Co (v:Int) (l:List ChT): ∃r:ByteArray,dD v l=some r/\eP v l=some r/\r.size<=1000:=by
 obtain ⟨es,ei⟩:=uw l
 obtain ⟨t,et,hn⟩: ∃t:List UInt8,(cT l=some (mkB t)/\dX l=some (mkB t))/\t.length<=432:=by
  by_cases h:l.length<=6/\As l
  ·have:=FY h.2
   refine ⟨btx l,⟨?_,?_⟩,by omega⟩
   ·rw[es,if_pos h]
   ·rw[ei,if_pos h]
  ·refine ⟨[],⟨?_,?_⟩,by simp⟩
   ·rw[es,if_neg h]
   ·rw[ei,if_neg h]
 obtain ⟨e1,e2⟩:=et
 unfold dD eP
 rw[e1,e2,NC,IC]
 simp only[aa]
 by_cases hv:1<=v/\v<=999
 ·have iv:I64 v:=by unfold I64;omega
  have nv:=rW iv
  have c1:lZ (mkB (Lib.itoa v)) (⟨#[59]⟩)=some (mkB (Lib.itoa v++ [59])):=Em _ [59] (by simp;omega)
  have c2:lZ (mkB (Lib.itoa v++ [59])) (mkB t)=some (mkB (Lib.itoa v++ [59] ++t)):=Em _ _ (by simp;omega)
  have c3:lZ (mkB (Lib.itoa v++ [59] ++t)) (⟨#[59]⟩)=some (mkB (Lib.itoa v++ [59] ++t++ [59])):=Em _ [59] (by simp;omega)
  obtain ⟨q,k1,k2,q1,q2⟩:=Im (mkB (Lib.itoa v++ [59] ++t++ [59])) (by rw[bG];simp;omega)
  have iq:I64 q:=by unfold I64;omega
  have nq:=rW iq
  have c4:lZ (mkB (Lib.itoa v++ [59] ++t++ [59])) (mkB (Lib.itoa q))=some (mkB (Lib.itoa v++ [59] ++t++ [59] ++Lib.itoa q)):=Em _ _ (by simp;omega)
  have c5:lZ (mkB (Lib.itoa v++ [59] ++t++ [59] ++Lib.itoa q)) (⟨#[10]⟩)=some (mkB (Lib.itoa v++ [59] ++t++ [59] ++Lib.itoa q++ [10])):=Em _ [10] (by simp;omega)
  have hs:(mkB (Lib.itoa v++ [59] ++t++ [59] ++Lib.itoa q++ [10])).size<=1000:=by rw[bG];simp;omega
  have h0:((⟨#[]⟩:ByteArray)).size<=1000:=by decide
  rw[decide_eq_true hv]
  simp only[if_true,uu iv,xp iv,uu iq,xp iq,c1,c2,c3,k1,k2,c4,c5,aa]
  by_cases a:decide ((l.length:Int)>0)=true
  ·by_cases b:(mkB t==(⟨#[]⟩:ByteArray))=true
   ·simp only[if_pos a,if_pos b];exact ⟨_,rfl,rfl,h0⟩
   ·simp only[if_pos a,if_neg b];exact ⟨_,rfl,rfl,hs⟩
  ·by_cases b:(mkB t==(⟨#[]⟩:ByteArray))=true
   ·simp only[if_neg a,if_pos b];exact ⟨_,rfl,rfl,hs⟩
   ·simp only[if_neg a,if_neg b];exact ⟨_,rfl,rfl,hs⟩
 ·rw[decide_eq_false hv]
  exact ⟨_,rfl,rfl,by decide⟩
end D
end Go.Proofs.YtilionjghdjbdaaGreatDoor
