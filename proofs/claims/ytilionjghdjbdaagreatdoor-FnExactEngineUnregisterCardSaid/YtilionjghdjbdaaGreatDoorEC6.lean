/- FnExactEngineUnregister: for every input the law returns true and changes nothing that was there. Part 7 of 9. -/
import Derived.Test.YtilionjghdjbdaaGreatDoorEC5
set_option linter.unusedVariables false
set_option linter.unusedSimpArgs false
set_option linter.unnecessarySimpa false
set_option linter.unusedSectionVars false
set_option maxRecDepth 1000000
namespace Go.Proofs.YtilionjghdjbdaaGreatDoor
namespace R
open Go.RowKit
open D
abbrev y3:Ty:=.int .i64
abbrev xR:Ty:=.prod y3 (.prod y3 (.prod y3 y3))
abbrev t274:Ty:=.tree 302 274 xR
abbrev G5:Ty:=.prod y3 (.prod y3 (.prod y3 y3))
abbrev VM:Ty:=.sl 168 G5
abbrev y91:Ty:=.sl 3 y3
abbrev EO:Ty:=.prod y91 VM
abbrev YW:Ty:=.prod y3 (.prod y3 y3)
abbrev y59:Ty:=.sl 161 xR
abbrev y61:Ty:=.wr y59
abbrev w8:Ty:=.prod y3 (.prod y61 y3)
abbrev YX:Ty:=.prod y3 (.prod y3 (.prod y3 y3))
abbrev y4:Ty:=.bool
abbrev ZD:Ty:=.prod y4 G5
abbrev Ym:Ty:=.prod y3 (.prod y3 (.prod y3 y3))
abbrev ZE:Ty:=.prod y4 Ym
abbrev Yn:Ty:=.sl 172 Ym
abbrev Yo:Ty:=.prod y91 Yn
abbrev Gj:Ty:=.sl 4 y4
abbrev La:Ty:=.sl 91 y91
abbrev Yp:Ty:=.prod y3 (.prod Gj La)
abbrev y54:Ty:=.sl 163 YX
abbrev y56:Ty:=.wr y54
abbrev Yq:Ty:=.prod y3 (.prod y56 y3)
abbrev lB:Ty:=.prod y3 (.prod Gj La)
abbrev y9:Ty:=.str
abbrev YY:Ty:=.sl 9 y9
abbrev y22:Ty:=.sl 179 Yo
abbrev y5:Ty:=.int .u8
abbrev ZU:Ty:=.sl 5 y5
abbrev JY:Ty:=.prod y91 (.prod y3 (.prod y3 (.prod y91 y4)))
abbrev y24:Ty:=.prod y3 y22
abbrev y25:Ty:=.sl 184 Yp
abbrev y26:Ty:=.sl 187 Yq
abbrev ZF:Ty:=.prod y4 (.prod y3 y3)
abbrev ZG:Ty:=.prod y3 (.prod y3 y4)
abbrev YZ:Ty:=.fro t274
abbrev y28:Ty:=.prod y25 y26
abbrev y29:Ty:=.sl 133 YW
abbrev Xt:Ty:=.int .u64
abbrev Yr:Ty:=.sl 274 YZ
abbrev ZV:Ty:=.prod xR Yr
abbrev y31:Ty:=.prod y24 (.prod y28 (.prod y29 y9))
abbrev Xu:Ty:=.int .u64
abbrev y34:Ty:=.sl 126 EO
abbrev Xv:Ty:=.int .u32
abbrev y36:Ty:=.prod y3 y34
abbrev y37:Ty:=.sl 189 lB
abbrev y38:Ty:=.sl 137 w8
abbrev y40:Ty:=.prod y37 y38
abbrev y88:Ty:=.prod y3 (.prod y3 y3)
abbrev y41:Ty:=.sl 88 y88
abbrev y43:Ty:=.prod y36 (.prod y40 (.prod y41 y9))
abbrev y66:Ty:=.sl 174 ZE
abbrev y68:Ty:=.wr y66
abbrev y71:Ty:=.sl 170 ZD
abbrev y73:Ty:=.wr y71
abbrev y92:Ty:=.sl 73 y73
theorem ti3:TI Tryz.prog 3 false 1:=⟨⟨_,Tryz.underlying3,rfl⟩,by kernel_rfl⟩
theorem Xw (a0:Int) (a1:Int) (a2:Int) (a3:Int) (b0:Int) (b1:Int) (b2:Int) (b3:Int) (w:World):EqT Tryz.prog 161 (.agg #[.int .i64 a0,.int .i64 a1,.int .i64 a2,.int .i64 a3]) (.agg #[.int .i64 b0,.int .i64 b1,.int .i64 b2,.int .i64 b3]) ((a0==b0)&&((a1==b1)&&((a2==b2)&&((a3==b3)&&true)))) w:=SG w Tryz.underlying161 (by kernel_rfl) (by kernel_rfl) (oy rfl (mN ti3 rfl) (mN ti3 rfl) (run_equalIn_int w 9998 3 _ _ _ _ Tryz.underlying3) (oy rfl (mN ti3 rfl) (mN ti3 rfl) (run_equalIn_int w 9998 3 _ _ _ _ Tryz.underlying3) (oy rfl (mN ti3 rfl) (mN ti3 rfl) (run_equalIn_int w 9998 3 _ _ _ _ Tryz.underlying3) (oy rfl (mN ti3 rfl) (mN ti3 rfl) (run_equalIn_int w 9998 3 _ _ _ _ Tryz.underlying3) (Mc w)))))
theorem Xx (a0:Int) (a1:Int) (a2:Int) (a3:Int) (b0:Int) (b1:Int) (b2:Int) (b3:Int) (w:World):EqT Tryz.prog 168 (.agg #[.int .i64 a0,.int .i64 a1,.int .i64 a2,.int .i64 a3]) (.agg #[.int .i64 b0,.int .i64 b1,.int .i64 b2,.int .i64 b3]) ((a0==b0)&&((a1==b1)&&((a2==b2)&&((a3==b3)&&true)))) w:=SG w Tryz.underlying168 (by kernel_rfl) (by kernel_rfl) (oy rfl (mN ti3 rfl) (mN ti3 rfl) (run_equalIn_int w 9998 3 _ _ _ _ Tryz.underlying3) (oy rfl (mN ti3 rfl) (mN ti3 rfl) (run_equalIn_int w 9998 3 _ _ _ _ Tryz.underlying3) (oy rfl (mN ti3 rfl) (mN ti3 rfl) (run_equalIn_int w 9998 3 _ _ _ _ Tryz.underlying3) (oy rfl (mN ti3 rfl) (mN ti3 rfl) (run_equalIn_int w 9998 3 _ _ _ _ Tryz.underlying3) (Mc w)))))
theorem mz3 (w:World):(zeroValue 3).run Tryz.prog w= .ok (.int .i64 0) w:=by kernel_rfl
theorem kk3:KeyOk Tryz.prog 3 (fun n:Int=>Value.int .i64 n) Us iOk:=WK Tryz.underlying3
theorem ek3:EltOk Tryz.prog 3 (fun n:Int=>Value.int .i64 n) Us iOk 0:=WL Tryz.underlying3 mz3
def tt:TT:=[(3,⟨false,1,none,y3,[],some 8,none,false,none,none,some (some .i64),false,none⟩),
 (4,⟨false,1,none,y4,[],some 1,none,true,none,none,none,false,none⟩),
 (5,⟨false,1,none,y5,[],some 1,none,false,none,none,some (some .u8),false,none⟩),
 (9,⟨false,1,none,y9,[],some 16,none,false,none,none,some none,false,none⟩),
 (22,⟨false,1,some 179,y22,[],some 24,none,false,none,none,none,false,none⟩),
 (24,⟨true,2,none,y24,[(0,0),(1,0)],some 32,some [(0,1),(1,1)],false,none,none,none,false,none⟩),
 (25,⟨false,1,some 184,y25,[],some 24,none,false,none,none,none,false,none⟩),
 (26,⟨false,1,some 187,y26,[],some 24,none,false,none,none,none,false,none⟩),
 (28,⟨true,2,none,y28,[(0,0),(1,0)],some 48,some [(0,1),(1,1)],false,none,none,none,false,none⟩),
 (29,⟨false,1,some 133,y29,[],some 24,none,false,none,none,none,false,none⟩),
 (31,⟨true,6,none,y31,[(0,1),(2,1),(4,0),(5,0)],some 120,some [(0,2),(2,2),(4,1),(5,1)],false,none,none,none,false,none⟩),
 (34,⟨false,1,some 126,y34,[],some 24,none,false,none,none,none,false,none⟩),
 (36,⟨true,2,none,y36,[(0,0),(1,0)],some 32,some [(0,1),(1,1)],false,none,none,none,false,none⟩),
 (37,⟨false,1,some 189,y37,[],some 24,none,false,none,none,none,false,none⟩),
 (38,⟨false,1,some 137,y38,[],some 24,none,false,none,none,none,false,none⟩),
 (40,⟨true,2,none,y40,[(0,0),(1,0)],some 48,some [(0,1),(1,1)],false,none,none,none,false,none⟩),
 (41,⟨false,1,some 88,y41,[],some 24,none,false,none,none,none,false,none⟩),
 (43,⟨true,6,none,y43,[(0,1),(2,1),(4,0),(5,0)],some 120,some [(0,2),(2,2),(4,1),(5,1)],false,none,none,none,false,none⟩),
 (54,⟨false,1,some 163,y54,[],some 24,none,false,none,none,none,false,none⟩),
 (56,⟨true,1,none,y56,[(0,0)],some 24,some [(0,1)],false,none,none,none,false,none⟩),
 (59,⟨false,1,some 161,y59,[],some 24,none,false,none,none,none,false,none⟩),
 (61,⟨true,1,none,y61,[(0,0)],some 24,some [(0,1)],false,none,none,none,false,none⟩),
 (66,⟨false,1,some 174,y66,[],some 24,none,false,none,none,none,false,none⟩),
 (68,⟨true,1,none,y68,[(0,0)],some 24,some [(0,1)],false,none,none,none,false,none⟩),
 (71,⟨false,1,some 170,y71,[],some 24,none,false,none,none,none,false,none⟩),
 (73,⟨true,1,none,y73,[(0,0)],some 24,some [(0,1)],false,none,none,none,false,none⟩),
 (88,⟨true,3,none,y88,[(0,0),(1,0),(2,0)],some 24,some [(0,1),(1,1),(2,1)],false,none,none,none,false,none⟩),
 (91,⟨false,1,some 3,y91,[],some 24,none,false,none,none,none,false,none⟩),
 (92,⟨false,1,some 73,y92,[],some 24,none,false,none,none,none,false,none⟩),
 (108,⟨false,1,none,.bool,[],none,none,false,none,none,none,true,none⟩),
 (124,⟨false,1,some 168,VM,[],some 24,none,false,none,none,none,false,none⟩),
 (126,⟨true,2,none,EO,[(0,0),(1,0)],some 48,some [(0,1),(1,1)],false,none,none,none,false,none⟩),
 (133,⟨true,3,none,YW,[(0,0),(1,0),(2,0)],some 24,some [(0,1),(1,1),(2,1)],false,none,none,none,false,none⟩),
 (134,⟨false,1,none,.bool,[],none,none,false,none,none,none,true,none⟩),
 (137,⟨true,3,none,w8,[(0,0),(1,0),(2,0)],some 40,some [(0,1),(1,1),(2,1)],false,none,none,none,false,none⟩),
 (138,⟨false,1,none,.bool,[],none,none,false,none,none,none,true,none⟩),
 (161,⟨true,4,none,xR,[(0,0),(1,0),(2,0),(3,0)],some 32,some [(0,1),(1,1),(2,1),(3,1)],false,some [some .i64,some .i64,some .i64,some .i64],none,none,false,none⟩),
 (163,⟨true,4,none,YX,[(0,0),(1,0),(2,0),(3,0)],some 32,some [(0,1),(1,1),(2,1),(3,1)],false,none,none,none,false,none⟩),
 (168,⟨true,4,none,G5,[(0,0),(1,0),(2,0),(3,0)],some 32,some [(0,1),(1,1),(2,1),(3,1)],false,some [some .i64,some .i64,some .i64,some .i64],none,none,false,none⟩),
 (170,⟨true,5,none,ZD,[(0,0),(1,3)],some 40,some [(0,1),(1,4)],false,none,none,none,false,none⟩),
 (172,⟨true,4,none,Ym,[(0,0),(1,0),(2,0),(3,0)],some 32,some [(0,1),(1,1),(2,1),(3,1)],false,none,none,none,false,none⟩),
 (174,⟨true,5,none,ZE,[(0,0),(1,3)],some 40,some [(0,1),(1,4)],false,none,none,none,false,none⟩),
 (177,⟨false,1,some 172,Yn,[],some 24,none,false,none,none,none,false,none⟩),
 (179,⟨true,2,none,Yo,[(0,0),(1,0)],some 48,some [(0,1),(1,1)],false,none,none,none,false,none⟩),
 (181,⟨false,1,some 4,Gj,[],some 24,none,false,none,none,none,false,none⟩),
 (182,⟨false,1,some 91,La,[],some 24,none,false,none,none,none,false,none⟩),
 (184,⟨true,3,none,Yp,[(0,0),(1,0),(2,0)],some 56,some [(0,1),(1,1),(2,1)],false,none,none,none,false,none⟩),
 (187,⟨true,3,none,Yq,[(0,0),(1,0),(2,0)],some 40,some [(0,1),(1,1),(2,1)],false,none,none,none,false,none⟩),
 (189,⟨true,3,none,lB,[(0,0),(1,0),(2,0)],some 56,some [(0,1),(1,1),(2,1)],false,none,none,none,false,none⟩),
 (194,⟨false,1,none,.bool,[],none,none,false,none,none,none,true,none⟩),
 (200,⟨false,1,none,.bool,[],none,none,false,none,none,none,true,none⟩),
 (204,⟨false,1,none,.bool,[],none,none,false,none,none,none,true,none⟩),
 (205,⟨false,1,some 9,YY,[],some 24,none,false,none,none,none,false,none⟩),
 (222,⟨false,1,some 5,ZU,[],some 24,none,false,none,none,none,false,none⟩),
 (230,⟨true,5,none,JY,[(0,0),(1,0),(2,0),(3,0),(4,0)],some 72,some [(0,1),(1,1),(2,1),(3,1),(4,1)],false,none,none,none,false,none⟩),
 (263,⟨true,3,none,ZF,[(0,0),(1,0),(2,0)],some 24,some [(0,1),(1,1),(2,1)],false,none,none,none,false,none⟩),
 (272,⟨true,3,none,ZG,[(0,0),(1,0),(2,0)],some 24,some [(0,1),(1,1),(2,1)],false,none,none,none,false,none⟩),
 (274,⟨false,1,none,YZ,[],some 8,none,false,none,none,none,false,some 302⟩),
 (277,⟨false,1,none,.bool,[],none,none,false,none,none,none,true,none⟩),
 (279,⟨false,1,none,.bool,[],none,none,false,none,none,none,true,none⟩),
 (290,⟨false,1,none,.bool,[],none,none,false,none,none,none,true,none⟩),
 (295,⟨false,1,none,Xt,[],some 8,none,false,none,none,some (some .u64),false,none⟩),
 (300,⟨false,1,some 274,Yr,[],some 24,none,false,none,none,none,false,none⟩),
 (302,⟨true,5,none,ZV,[(0,3),(4,0)],some 56,some [(0,4),(4,1)],false,none,none,none,false,none⟩),
 (306,⟨false,1,none,.bool,[],none,none,false,none,some ⟨3,3,.int,.int⟩,none,false,none⟩),
 (308,⟨false,1,none,.bool,[],none,none,false,none,none,none,true,none⟩),
 (321,⟨false,1,none,Xu,[],some 8,none,false,none,none,some (some .u64),false,none⟩),
 (344,⟨false,1,none,Xv,[],some 4,none,false,none,none,some (some .u32),false,none⟩),
 (351,⟨false,1,none,.bool,[],none,none,false,none,none,none,true,none⟩)]
theorem Od:TTok Tryz.prog tt:=⟨uA (n:=1) (z:=.int .i64 0) ⟨⟨_,Tryz.underlying3,rfl⟩,by kernel_rfl⟩ rfl (by unfold TZ;kernel_rfl) rfl (bj rfl) (fun h=>by cases h) (fun k h=>by obtain rfl:=ae h;exact Tryz.underlying3),
 uA (n:=1) (z:=.bool false) ⟨⟨_,Tryz.underlying4,rfl⟩,by kernel_rfl⟩ rfl (by unfold TZ;kernel_rfl) rfl (bj rfl) (fun h=>Tryz.underlying4) (fun k h=>by cases h),
 uA (n:=1) (z:=.int .u8 0) ⟨⟨_,Tryz.underlying5,rfl⟩,by kernel_rfl⟩ rfl (by unfold TZ;kernel_rfl) rfl (bj rfl) (fun h=>by cases h) (fun k h=>by obtain rfl:=ae h;exact Tryz.underlying5),
 uA (n:=1) (z:=.string ⟨#[]⟩) ⟨⟨_,Tryz.underlying9,rfl⟩,by kernel_rfl⟩ rfl (by unfold TZ;kernel_rfl) rfl (bj rfl) (fun h=>by cases h) (fun k h=>by obtain rfl:=ae h;exact Tryz.underlying9),
 o0 ⟨⟨_,Tryz.underlying22,rfl⟩,by kernel_rfl⟩ Tryz.underlying22 (by unfold TZ;kernel_rfl),
 k8 (z:=.agg #[.int .i64 0,.slice none 0 0]) ⟨⟨_,Tryz.underlying24,rfl⟩,by kernel_rfl⟩ rfl ⟨⟨_,_,Tryz.underlying24,rfl,rfl,by kernel_rfl⟩,⟨_,_,Tryz.underlying24,rfl,rfl,by kernel_rfl⟩,trivial⟩ (by unfold TZ;kernel_rfl) rfl (bj rfl) ⟨_,Tryz.underlying24,by kernel_rfl⟩ (fun ks h=>by cases h),
 o0 ⟨⟨_,Tryz.underlying25,rfl⟩,by kernel_rfl⟩ Tryz.underlying25 (by unfold TZ;kernel_rfl),
 o0 ⟨⟨_,Tryz.underlying26,rfl⟩,by kernel_rfl⟩ Tryz.underlying26 (by unfold TZ;kernel_rfl),
 k8 (z:=.agg #[.slice none 0 0,.slice none 0 0]) ⟨⟨_,Tryz.underlying28,rfl⟩,by kernel_rfl⟩ rfl ⟨⟨_,_,Tryz.underlying28,rfl,rfl,by kernel_rfl⟩,⟨_,_,Tryz.underlying28,rfl,rfl,by kernel_rfl⟩,trivial⟩ (by unfold TZ;kernel_rfl) rfl (bj rfl) ⟨_,Tryz.underlying28,by kernel_rfl⟩ (fun ks h=>by cases h),
 o0 ⟨⟨_,Tryz.underlying29,rfl⟩,by kernel_rfl⟩ Tryz.underlying29 (by unfold TZ;kernel_rfl),
 k8 (z:=.agg #[.int .i64 0,.slice none 0 0,.slice none 0 0,.slice none 0 0,.slice none 0 0,.string ⟨#[]⟩]) ⟨⟨_,Tryz.underlying31,rfl⟩,by kernel_rfl⟩ rfl ⟨⟨_,_,Tryz.underlying31,rfl,rfl,by kernel_rfl⟩,⟨_,_,Tryz.underlying31,rfl,rfl,by kernel_rfl⟩,⟨_,_,Tryz.underlying31,rfl,rfl,by kernel_rfl⟩,⟨_,_,Tryz.underlying31,rfl,rfl,by kernel_rfl⟩,trivial⟩ (by unfold TZ;kernel_rfl) rfl (bj rfl) ⟨_,Tryz.underlying31,by kernel_rfl⟩ (fun ks h=>by cases h),
 o0 ⟨⟨_,Tryz.underlying34,rfl⟩,by kernel_rfl⟩ Tryz.underlying34 (by unfold TZ;kernel_rfl),
 k8 (z:=.agg #[.int .i64 0,.slice none 0 0]) ⟨⟨_,Tryz.underlying36,rfl⟩,by kernel_rfl⟩ rfl ⟨⟨_,_,Tryz.underlying36,rfl,rfl,by kernel_rfl⟩,⟨_,_,Tryz.underlying36,rfl,rfl,by kernel_rfl⟩,trivial⟩ (by unfold TZ;kernel_rfl) rfl (bj rfl) ⟨_,Tryz.underlying36,by kernel_rfl⟩ (fun ks h=>by cases h),
 o0 ⟨⟨_,Tryz.underlying37,rfl⟩,by kernel_rfl⟩ Tryz.underlying37 (by unfold TZ;kernel_rfl),
 o0 ⟨⟨_,Tryz.underlying38,rfl⟩,by kernel_rfl⟩ Tryz.underlying38 (by unfold TZ;kernel_rfl),
 k8 (z:=.agg #[.slice none 0 0,.slice none 0 0]) ⟨⟨_,Tryz.underlying40,rfl⟩,by kernel_rfl⟩ rfl ⟨⟨_,_,Tryz.underlying40,rfl,rfl,by kernel_rfl⟩,⟨_,_,Tryz.underlying40,rfl,rfl,by kernel_rfl⟩,trivial⟩ (by unfold TZ;kernel_rfl) rfl (bj rfl) ⟨_,Tryz.underlying40,by kernel_rfl⟩ (fun ks h=>by cases h),
 o0 ⟨⟨_,Tryz.underlying41,rfl⟩,by kernel_rfl⟩ Tryz.underlying41 (by unfold TZ;kernel_rfl),
 k8 (z:=.agg #[.int .i64 0,.slice none 0 0,.slice none 0 0,.slice none 0 0,.slice none 0 0,.string ⟨#[]⟩]) ⟨⟨_,Tryz.underlying43,rfl⟩,by kernel_rfl⟩ rfl ⟨⟨_,_,Tryz.underlying43,rfl,rfl,by kernel_rfl⟩,⟨_,_,Tryz.underlying43,rfl,rfl,by kernel_rfl⟩,⟨_,_,Tryz.underlying43,rfl,rfl,by kernel_rfl⟩,⟨_,_,Tryz.underlying43,rfl,rfl,by kernel_rfl⟩,trivial⟩ (by unfold TZ;kernel_rfl) rfl (bj rfl) ⟨_,Tryz.underlying43,by kernel_rfl⟩ (fun ks h=>by cases h),
 o0 ⟨⟨_,Tryz.underlying54,rfl⟩,by kernel_rfl⟩ Tryz.underlying54 (by unfold TZ;kernel_rfl),
 k8 (z:=.agg #[.slice none 0 0]) ⟨⟨_,Tryz.underlying56,rfl⟩,by kernel_rfl⟩ rfl ⟨⟨_,_,Tryz.underlying56,rfl,rfl,by kernel_rfl⟩,trivial⟩ (by unfold TZ;kernel_rfl) rfl (bj rfl) ⟨_,Tryz.underlying56,by kernel_rfl⟩ (fun ks h=>by cases h),
 o0 ⟨⟨_,Tryz.underlying59,rfl⟩,by kernel_rfl⟩ Tryz.underlying59 (by unfold TZ;kernel_rfl),
 k8 (z:=.agg #[.slice none 0 0]) ⟨⟨_,Tryz.underlying61,rfl⟩,by kernel_rfl⟩ rfl ⟨⟨_,_,Tryz.underlying61,rfl,rfl,by kernel_rfl⟩,trivial⟩ (by unfold TZ;kernel_rfl) rfl (bj rfl) ⟨_,Tryz.underlying61,by kernel_rfl⟩ (fun ks h=>by cases h),
 o0 ⟨⟨_,Tryz.underlying66,rfl⟩,by kernel_rfl⟩ Tryz.underlying66 (by unfold TZ;kernel_rfl),
 k8 (z:=.agg #[.slice none 0 0]) ⟨⟨_,Tryz.underlying68,rfl⟩,by kernel_rfl⟩ rfl ⟨⟨_,_,Tryz.underlying68,rfl,rfl,by kernel_rfl⟩,trivial⟩ (by unfold TZ;kernel_rfl) rfl (bj rfl) ⟨_,Tryz.underlying68,by kernel_rfl⟩ (fun ks h=>by cases h),
 o0 ⟨⟨_,Tryz.underlying71,rfl⟩,by kernel_rfl⟩ Tryz.underlying71 (by unfold TZ;kernel_rfl),
 k8 (z:=.agg #[.slice none 0 0]) ⟨⟨_,Tryz.underlying73,rfl⟩,by kernel_rfl⟩ rfl ⟨⟨_,_,Tryz.underlying73,rfl,rfl,by kernel_rfl⟩,trivial⟩ (by unfold TZ;kernel_rfl) rfl (bj rfl) ⟨_,Tryz.underlying73,by kernel_rfl⟩ (fun ks h=>by cases h),
 k8 (z:=.agg #[.int .i64 0,.int .i64 0,.int .i64 0]) ⟨⟨_,Tryz.underlying88,rfl⟩,by kernel_rfl⟩ rfl ⟨⟨_,_,Tryz.underlying88,rfl,rfl,by kernel_rfl⟩,⟨_,_,Tryz.underlying88,rfl,rfl,by kernel_rfl⟩,⟨_,_,Tryz.underlying88,rfl,rfl,by kernel_rfl⟩,trivial⟩ (by unfold TZ;kernel_rfl) rfl (bj rfl) ⟨_,Tryz.underlying88,by kernel_rfl⟩ (fun ks h=>by cases h),
 o0 ⟨⟨_,Tryz.underlying91,rfl⟩,by kernel_rfl⟩ Tryz.underlying91 (by unfold TZ;kernel_rfl),
 o0 ⟨⟨_,Tryz.underlying92,rfl⟩,by kernel_rfl⟩ Tryz.underlying92 (by unfold TZ;kernel_rfl),
 Am (ty:=.bool) (b:=8) ⟨⟨_,Tryz.underlying108,rfl⟩,by kernel_rfl⟩ rfl (by unfold TZ;kernel_rfl),
 o0 ⟨⟨_,Tryz.underlying124,rfl⟩,by kernel_rfl⟩ Tryz.underlying124 (by unfold TZ;kernel_rfl),
 k8 (z:=.agg #[.slice none 0 0,.slice none 0 0]) ⟨⟨_,Tryz.underlying126,rfl⟩,by kernel_rfl⟩ rfl ⟨⟨_,_,Tryz.underlying126,rfl,rfl,by kernel_rfl⟩,⟨_,_,Tryz.underlying126,rfl,rfl,by kernel_rfl⟩,trivial⟩ (by unfold TZ;kernel_rfl) rfl (bj rfl) ⟨_,Tryz.underlying126,by kernel_rfl⟩ (fun ks h=>by cases h),
 k8 (z:=.agg #[.int .i64 0,.int .i64 0,.int .i64 0]) ⟨⟨_,Tryz.underlying133,rfl⟩,by kernel_rfl⟩ rfl ⟨⟨_,_,Tryz.underlying133,rfl,rfl,by kernel_rfl⟩,⟨_,_,Tryz.underlying133,rfl,rfl,by kernel_rfl⟩,⟨_,_,Tryz.underlying133,rfl,rfl,by kernel_rfl⟩,trivial⟩ (by unfold TZ;kernel_rfl) rfl (bj rfl) ⟨_,Tryz.underlying133,by kernel_rfl⟩ (fun ks h=>by cases h),
 Am (ty:=.bool) (b:=8) ⟨⟨_,Tryz.underlying134,rfl⟩,by kernel_rfl⟩ rfl (by unfold TZ;kernel_rfl),
 k8 (z:=.agg #[.int .i64 0,.slice none 0 0,.int .i64 0]) ⟨⟨_,Tryz.underlying137,rfl⟩,by kernel_rfl⟩ rfl ⟨⟨_,_,Tryz.underlying137,rfl,rfl,by kernel_rfl⟩,⟨_,_,Tryz.underlying137,rfl,rfl,by kernel_rfl⟩,⟨_,_,Tryz.underlying137,rfl,rfl,by kernel_rfl⟩,trivial⟩ (by unfold TZ;kernel_rfl) rfl (bj rfl) ⟨_,Tryz.underlying137,by kernel_rfl⟩ (fun ks h=>by cases h),
 Am (ty:=.bool) (b:=8) ⟨⟨_,Tryz.underlying138,rfl⟩,by kernel_rfl⟩ rfl (by unfold TZ;kernel_rfl),
 k8 (z:=.agg #[.int .i64 0,.int .i64 0,.int .i64 0,.int .i64 0]) ⟨⟨_,Tryz.underlying161,rfl⟩,by kernel_rfl⟩ rfl ⟨⟨_,_,Tryz.underlying161,rfl,rfl,by kernel_rfl⟩,⟨_,_,Tryz.underlying161,rfl,rfl,by kernel_rfl⟩,⟨_,_,Tryz.underlying161,rfl,rfl,by kernel_rfl⟩,⟨_,_,Tryz.underlying161,rfl,rfl,by kernel_rfl⟩,trivial⟩ (by unfold TZ;kernel_rfl) rfl (bj rfl) ⟨_,Tryz.underlying161,by kernel_rfl⟩ (fun ks h=>by obtain rfl:=ae h;exact fun w a0 b0 a1 b1 a2 b2 a3 b3=>Xw a0 a1 a2 a3 b0 b1 b2 b3 w),
 k8 (z:=.agg #[.int .i64 0,.int .i64 0,.int .i64 0,.int .i64 0]) ⟨⟨_,Tryz.underlying163,rfl⟩,by kernel_rfl⟩ rfl ⟨⟨_,_,Tryz.underlying163,rfl,rfl,by kernel_rfl⟩,⟨_,_,Tryz.underlying163,rfl,rfl,by kernel_rfl⟩,⟨_,_,Tryz.underlying163,rfl,rfl,by kernel_rfl⟩,⟨_,_,Tryz.underlying163,rfl,rfl,by kernel_rfl⟩,trivial⟩ (by unfold TZ;kernel_rfl) rfl (bj rfl) ⟨_,Tryz.underlying163,by kernel_rfl⟩ (fun ks h=>by cases h),
 k8 (z:=.agg #[.int .i64 0,.int .i64 0,.int .i64 0,.int .i64 0]) ⟨⟨_,Tryz.underlying168,rfl⟩,by kernel_rfl⟩ rfl ⟨⟨_,_,Tryz.underlying168,rfl,rfl,by kernel_rfl⟩,⟨_,_,Tryz.underlying168,rfl,rfl,by kernel_rfl⟩,⟨_,_,Tryz.underlying168,rfl,rfl,by kernel_rfl⟩,⟨_,_,Tryz.underlying168,rfl,rfl,by kernel_rfl⟩,trivial⟩ (by unfold TZ;kernel_rfl) rfl (bj rfl) ⟨_,Tryz.underlying168,by kernel_rfl⟩ (fun ks h=>by obtain rfl:=ae h;exact fun w a0 b0 a1 b1 a2 b2 a3 b3=>Xx a0 a1 a2 a3 b0 b1 b2 b3 w),
 k8 (z:=.agg #[.bool false,.int .i64 0,.int .i64 0,.int .i64 0,.int .i64 0]) ⟨⟨_,Tryz.underlying170,rfl⟩,by kernel_rfl⟩ rfl ⟨⟨_,_,Tryz.underlying170,rfl,rfl,by kernel_rfl⟩,⟨_,_,Tryz.underlying170,rfl,rfl,by kernel_rfl⟩,trivial⟩ (by unfold TZ;kernel_rfl) rfl (bj rfl) ⟨_,Tryz.underlying170,by kernel_rfl⟩ (fun ks h=>by cases h),
 k8 (z:=.agg #[.int .i64 0,.int .i64 0,.int .i64 0,.int .i64 0]) ⟨⟨_,Tryz.underlying172,rfl⟩,by kernel_rfl⟩ rfl ⟨⟨_,_,Tryz.underlying172,rfl,rfl,by kernel_rfl⟩,⟨_,_,Tryz.underlying172,rfl,rfl,by kernel_rfl⟩,⟨_,_,Tryz.underlying172,rfl,rfl,by kernel_rfl⟩,⟨_,_,Tryz.underlying172,rfl,rfl,by kernel_rfl⟩,trivial⟩ (by unfold TZ;kernel_rfl) rfl (bj rfl) ⟨_,Tryz.underlying172,by kernel_rfl⟩ (fun ks h=>by cases h),
 k8 (z:=.agg #[.bool false,.int .i64 0,.int .i64 0,.int .i64 0,.int .i64 0]) ⟨⟨_,Tryz.underlying174,rfl⟩,by kernel_rfl⟩ rfl ⟨⟨_,_,Tryz.underlying174,rfl,rfl,by kernel_rfl⟩,⟨_,_,Tryz.underlying174,rfl,rfl,by kernel_rfl⟩,trivial⟩ (by unfold TZ;kernel_rfl) rfl (bj rfl) ⟨_,Tryz.underlying174,by kernel_rfl⟩ (fun ks h=>by cases h),
 o0 ⟨⟨_,Tryz.underlying177,rfl⟩,by kernel_rfl⟩ Tryz.underlying177 (by unfold TZ;kernel_rfl),
 k8 (z:=.agg #[.slice none 0 0,.slice none 0 0]) ⟨⟨_,Tryz.underlying179,rfl⟩,by kernel_rfl⟩ rfl ⟨⟨_,_,Tryz.underlying179,rfl,rfl,by kernel_rfl⟩,⟨_,_,Tryz.underlying179,rfl,rfl,by kernel_rfl⟩,trivial⟩ (by unfold TZ;kernel_rfl) rfl (bj rfl) ⟨_,Tryz.underlying179,by kernel_rfl⟩ (fun ks h=>by cases h),
 o0 ⟨⟨_,Tryz.underlying181,rfl⟩,by kernel_rfl⟩ Tryz.underlying181 (by unfold TZ;kernel_rfl),
 o0 ⟨⟨_,Tryz.underlying182,rfl⟩,by kernel_rfl⟩ Tryz.underlying182 (by unfold TZ;kernel_rfl),
 k8 (z:=.agg #[.int .i64 0,.slice none 0 0,.slice none 0 0]) ⟨⟨_,Tryz.underlying184,rfl⟩,by kernel_rfl⟩ rfl ⟨⟨_,_,Tryz.underlying184,rfl,rfl,by kernel_rfl⟩,⟨_,_,Tryz.underlying184,rfl,rfl,by kernel_rfl⟩,⟨_,_,Tryz.underlying184,rfl,rfl,by kernel_rfl⟩,trivial⟩ (by unfold TZ;kernel_rfl) rfl (bj rfl) ⟨_,Tryz.underlying184,by kernel_rfl⟩ (fun ks h=>by cases h),
 k8 (z:=.agg #[.int .i64 0,.slice none 0 0,.int .i64 0]) ⟨⟨_,Tryz.underlying187,rfl⟩,by kernel_rfl⟩ rfl ⟨⟨_,_,Tryz.underlying187,rfl,rfl,by kernel_rfl⟩,⟨_,_,Tryz.underlying187,rfl,rfl,by kernel_rfl⟩,⟨_,_,Tryz.underlying187,rfl,rfl,by kernel_rfl⟩,trivial⟩ (by unfold TZ;kernel_rfl) rfl (bj rfl) ⟨_,Tryz.underlying187,by kernel_rfl⟩ (fun ks h=>by cases h),
 k8 (z:=.agg #[.int .i64 0,.slice none 0 0,.slice none 0 0]) ⟨⟨_,Tryz.underlying189,rfl⟩,by kernel_rfl⟩ rfl ⟨⟨_,_,Tryz.underlying189,rfl,rfl,by kernel_rfl⟩,⟨_,_,Tryz.underlying189,rfl,rfl,by kernel_rfl⟩,⟨_,_,Tryz.underlying189,rfl,rfl,by kernel_rfl⟩,trivial⟩ (by unfold TZ;kernel_rfl) rfl (bj rfl) ⟨_,Tryz.underlying189,by kernel_rfl⟩ (fun ks h=>by cases h),
 Am (ty:=.bool) (b:=8) ⟨⟨_,Tryz.underlying194,rfl⟩,by kernel_rfl⟩ rfl (by unfold TZ;kernel_rfl),
 Am (ty:=.bool) (b:=8) ⟨⟨_,Tryz.underlying200,rfl⟩,by kernel_rfl⟩ rfl (by unfold TZ;kernel_rfl),
 Am (ty:=.bool) (b:=8) ⟨⟨_,Tryz.underlying204,rfl⟩,by kernel_rfl⟩ rfl (by unfold TZ;kernel_rfl),
 o0 ⟨⟨_,Tryz.underlying205,rfl⟩,by kernel_rfl⟩ Tryz.underlying205 (by unfold TZ;kernel_rfl),
 o0 ⟨⟨_,Tryz.underlying222,rfl⟩,by kernel_rfl⟩ Tryz.underlying222 (by unfold TZ;kernel_rfl),
 k8 (z:=.agg #[.slice none 0 0,.int .i64 0,.int .i64 0,.slice none 0 0,.bool false]) ⟨⟨_,Tryz.underlying230,rfl⟩,by kernel_rfl⟩ rfl ⟨⟨_,_,Tryz.underlying230,rfl,rfl,by kernel_rfl⟩,⟨_,_,Tryz.underlying230,rfl,rfl,by kernel_rfl⟩,⟨_,_,Tryz.underlying230,rfl,rfl,by kernel_rfl⟩,⟨_,_,Tryz.underlying230,rfl,rfl,by kernel_rfl⟩,⟨_,_,Tryz.underlying230,rfl,rfl,by kernel_rfl⟩,trivial⟩ (by unfold TZ;kernel_rfl) rfl (bj rfl) ⟨_,Tryz.underlying230,by kernel_rfl⟩ (fun ks h=>by cases h),
 k8 (z:=.agg #[.bool false,.int .i64 0,.int .i64 0]) ⟨⟨_,Tryz.underlying263,rfl⟩,by kernel_rfl⟩ rfl ⟨⟨_,_,Tryz.underlying263,rfl,rfl,by kernel_rfl⟩,⟨_,_,Tryz.underlying263,rfl,rfl,by kernel_rfl⟩,⟨_,_,Tryz.underlying263,rfl,rfl,by kernel_rfl⟩,trivial⟩ (by unfold TZ;kernel_rfl) rfl (bj rfl) ⟨_,Tryz.underlying263,by kernel_rfl⟩ (fun ks h=>by cases h),
 k8 (z:=.agg #[.int .i64 0,.int .i64 0,.bool false]) ⟨⟨_,Tryz.underlying272,rfl⟩,by kernel_rfl⟩ rfl ⟨⟨_,_,Tryz.underlying272,rfl,rfl,by kernel_rfl⟩,⟨_,_,Tryz.underlying272,rfl,rfl,by kernel_rfl⟩,⟨_,_,Tryz.underlying272,rfl,rfl,by kernel_rfl⟩,trivial⟩ (by unfold TZ;kernel_rfl) rfl (bj rfl) ⟨_,Tryz.underlying272,by kernel_rfl⟩ (fun ks h=>by cases h),
 YU (e:=302) (E:=274) (u:=xR) ⟨⟨_,Tryz.underlying274,rfl⟩,by kernel_rfl⟩ Tryz.underlying274 (by unfold TZ;kernel_rfl),
 Am (ty:=.bool) (b:=8) ⟨⟨_,Tryz.underlying277,rfl⟩,by kernel_rfl⟩ rfl (by unfold TZ;kernel_rfl),
 Am (ty:=.bool) (b:=8) ⟨⟨_,Tryz.underlying279,rfl⟩,by kernel_rfl⟩ rfl (by unfold TZ;kernel_rfl),
 Am (ty:=.bool) (b:=8) ⟨⟨_,Tryz.underlying290,rfl⟩,by kernel_rfl⟩ rfl (by unfold TZ;kernel_rfl),
 uA (n:=1) (z:=.int .u64 0) ⟨⟨_,Tryz.underlying295,rfl⟩,by kernel_rfl⟩ rfl (by unfold TZ;kernel_rfl) rfl (bj rfl) (fun h=>by cases h) (fun k h=>by obtain rfl:=ae h;exact Tryz.underlying295),
 o0 ⟨⟨_,Tryz.underlying300,rfl⟩,by kernel_rfl⟩ Tryz.underlying300 (by unfold TZ;kernel_rfl),
 k8 (z:=.agg #[.int .i64 0,.int .i64 0,.int .i64 0,.int .i64 0,.slice none 0 0]) ⟨⟨_,Tryz.underlying302,rfl⟩,by kernel_rfl⟩ rfl ⟨⟨_,_,Tryz.underlying302,rfl,rfl,by kernel_rfl⟩,⟨_,_,Tryz.underlying302,rfl,rfl,by kernel_rfl⟩,trivial⟩ (by unfold TZ;kernel_rfl) rfl (bj rfl) ⟨_,Tryz.underlying302,by kernel_rfl⟩ (fun ks h=>by cases h),
 YT (m:=⟨3,3,.int,.int⟩) (ty:=.bool) ⟨⟨_,Tryz.underlying306,rfl⟩,by kernel_rfl⟩ rfl ⟨Tryz.underlying306,kk3,ek3⟩,
 Am (ty:=.bool) (b:=8) ⟨⟨_,Tryz.underlying308,rfl⟩,by kernel_rfl⟩ rfl (by unfold TZ;kernel_rfl),
 uA (n:=1) (z:=.int .u64 0) ⟨⟨_,Tryz.underlying321,rfl⟩,by kernel_rfl⟩ rfl (by unfold TZ;kernel_rfl) rfl (bj rfl) (fun h=>by cases h) (fun k h=>by obtain rfl:=ae h;exact Tryz.underlying321),
 uA (n:=1) (z:=.int .u32 0) ⟨⟨_,Tryz.underlying344,rfl⟩,by kernel_rfl⟩ rfl (by unfold TZ;kernel_rfl) rfl (bj rfl) (fun h=>by cases h) (fun k h=>by obtain rfl:=ae h;exact Tryz.underlying344),
 Am (ty:=.bool) (b:=8) ⟨⟨_,Tryz.underlying351,rfl⟩,by kernel_rfl⟩ rfl (by unfold TZ;kernel_rfl),trivial⟩
theorem mixed:Tryz.prog.follows .mixedOrders=true:=by kernel_rfl
def Tp (fn:Func):Code:=match fn.body with
 | some c=>c
 | none=>.skip
theorem fk {k:FuncId} {fn:Func} {f:FS} (ft:FT) (hF:FTok Tryz.prog ft) (hf:Tryz.prog.funcs[k]? =some fn) (ann:Ann) (an:List (Nat×Ty):=[]) (tr:Trs:=[]) (hb:fn.body=some (Tp fn):=by rfl) (he:(fn.name == "runtime.NumGoroutine")=false:=by kernel_rfl) (hcl:f.cl=none:=by rfl) (hm:Nat.ble f.ps.length fn.ntmps=true:=by rfl) (hdp:(Du f.rs&&zP f.ps)=true:=by rfl)
  (hmod: ∀d,appP f.ps f.m d=jf ⟨tt,ft,an,fn.ntmps,tr⟩ (H1 ⟨tt,ft,an,fn.ntmps,tr⟩ fn.results.toList f.rs f.ps d) (Tp fn) ann (fun r=>some r) (fun _ _=>none) (H1 ⟨tt,ft,an,fn.ntmps,tr⟩ fn.results.toList f.rs f.ps d) (rk (Ak f.ps d)):=by intro d;kernel_rfl):FOk Tryz.prog k f:=
 fok (V:=⟨tt,ft,an,fn.ntmps,tr⟩) Od hF mixed hf hb rfl (enters_of hf he hb) hcl (bj hm) hdp ann hmod
def w9:FS:=⟨[.rd y91,.rd y3],[y3],sW,none⟩
def Ao:FS:=⟨[.rd Yn,.rd y3],[y3],uB,none⟩
def Ap:FS:=⟨[.rd Yo,.rd y3],[y3],qe,none⟩
def xS:FS:=⟨[.rd y22,.rd y3],[y3],rP,none⟩
def vL:FS:=⟨[.rd y24,.rd y3],[y3],mT,none⟩
def Aq:FS:=⟨[.rd Gj,.rd y3],[y3],uC,none⟩
def Ar:FS:=⟨[.rd La,.rd y3],[y3],uD,none⟩
def rT:FS:=⟨[.rd Yp,.rd y3],[y3],kA,none⟩
def qM:FS:=⟨[.rd y25,.rd y3],[y3],mF,none⟩
def xT:FS:=⟨[.rd y54,.rd y3],[y3],rQ,none⟩
def CC:FS:=⟨[.rd y56,.rd y3],[y3],sX,none⟩
def qN:FS:=⟨[.rd Yq,.rd y3],[y3],jt,none⟩
def pz:FS:=⟨[.rd y26,.rd y3],[y3],ln,none⟩
def tK:FS:=⟨[.rd y28,.rd y3],[y3],lL,none⟩
def pA:FS:=⟨[.rd y29,.rd y3],[y3],lp,none⟩
def xU:FS:=⟨[.rd y31,.rd y3],[y3],oE,none⟩
def mb:FS:=⟨[.rd y3,.rd y3,.rd y3],[y4],cS,none⟩
def CD:FS:=⟨[.rd EO,.rd G5],[y4],CB,none⟩
def qO:FS:=⟨[.rd EO],[y4],gD,none⟩
def vM:FS:=⟨[.rd y91,.rd y91],[y3],nH,none⟩
def kT:FS:=⟨[.rd y36],[y4],m_s_IsValidHistory,none⟩
def rU:FS:=⟨[.rd y3],[y4],mg,none⟩
def uK:FS:=⟨[.rd xR],[y3],nI,none⟩
def CE:FS:=⟨[.rd y61],[y4],sY,none⟩
def rV:FS:=⟨[.rd y61],[y4],kB,none⟩
def qw:FS:=⟨[.rd y59],[y3],hY,none⟩
def qx (n:Nat):FS:=⟨[.rd y59],[y3],dW n,none⟩
def tk:FS:=⟨[.rd y59],[y61],gJ,none⟩
def xa:FS:=⟨[.rd y61,.rd y61,.rd xR],[y61],lq,none⟩
def CF:FS:=⟨[.rd y3],[y61],po,none⟩
def oL (n:Nat):FS:=⟨[.rd y61,.rd y3,.rd y3],[y61],jX n,none⟩
def ni (n:Nat):FS:=⟨[.rd y59],[y61],cT n,none⟩
def tL:FS:=⟨[.rd y61],[y61,y4],lN,none⟩
def As:FS:=⟨[.ptr 230 JY,.rd y3,.rd y3],[],nJ,none⟩
def oM (n:Nat):FS:=⟨[.ptr 230 JY,.rd y59],[ZF],dq n,none⟩
def oN:FS:=⟨[.rd y61],[JY,y4],gP,none⟩
def xV:FS:=⟨[.rd JY,.rd y3,.rd y3],[y3],oG,none⟩
def uL:FS:=⟨[.rd y91,.rd y3],[y3],nK,none⟩
def tM:FS:=⟨[.rd JY,.rd y3],[y4],lO,none⟩
def tN:FS:=⟨[.rd JY,.rd y3],[lB,y4],jh,none⟩
def tO:FS:=⟨[],[lB],o7,none⟩
def vN:FS:=⟨[.rd lB,.rd y91,.rd Gj],[lB],iI,none⟩
def uM:FS:=⟨[.rd lB],[Gj],lr,none⟩
def CG:FS:=⟨[.rd lB,.rd y91,.rd y3],[y91],pq,none⟩
def tP:FS:=⟨[.rd lB],[y91],jk,none⟩
def rW:FS:=⟨[.rd lB],[lB],ig,none⟩
def rX:FS:=⟨[.rd y61],[lB,y4],ij,none⟩
def lC:FS:=⟨[.rd lB,.rd lB],[y4],fL,none⟩
def xW:FS:=⟨[.rd y37,.rd lB],[y3],mi,none⟩
def rY:FS:=⟨[.rd y38],[y40,y4],mj,none⟩
def tQ:FS:=⟨[.rd y61,.rd y61],[y4],lQ,none⟩
def nN:FS:=⟨[.rd y40,.rd y40],[y4],gf,none⟩
def jT:FS:=⟨[.rd y40],[y4],dX,none⟩
def lD:FS:=⟨[.rd y36],[y3],cE,none⟩
def qy:FS:=⟨[.rd y40,.rd y3],[y3],iK,none⟩
def At:FS:=⟨[.rd y43],[y4],uE,none⟩
def nj:FS:=⟨[.rd y3],[y9],b9,none⟩
def mI:FS:=⟨[.rd y3],[y9],eO,none⟩
def o8:FS:=⟨[.rd G5],[y9],jl,none⟩
def nO:FS:=⟨[.rd y73],[y9],cU,none⟩
def xX:FS:=⟨[.rd y9],[y3],fT,none⟩
def qP:FS:=⟨[.rd y3,.rd y73],[y9],eP,none⟩
def vO:FS:=⟨[.rd y9,.rd y5],[YY],im,none⟩
def rZ:FS:=⟨[.rd y9],[y3,y4],fU,none⟩
def sa:FS:=⟨[.rd y9],[y3,y4],fN,none⟩
def vP:FS:=⟨[.rd y9],[G5,y4],gg,none⟩
def tR:FS:=⟨[.rd y9],[y73,y4],dQ,none⟩
def qQ:FS:=⟨[.rd y9],[y3,y73,y4],jv,none⟩
def Au:FS:=⟨[.rd y9],[y91,.sl 73 (.bag y73),y3],m_s_ScanLog,none⟩
def CH:FS:=⟨[.rd y43],[y4],w7,none⟩
def pB:FS:=⟨[.rd y43],[y4],iL,none⟩
def xb:FS:=⟨[.rd y91],[y91],pv,none⟩
def CI:FS:=⟨[.rd Ym],[G5],sZ,none⟩
def Av:FS:=⟨[.rd Yn],[VM],qg,none⟩
def Aw:FS:=⟨[.rd Yo],[EO],qi,none⟩
def xY:FS:=⟨[.rd y22],[y34],oJ,none⟩
def vQ:FS:=⟨[.rd y24],[y36],mW,none⟩
def Ax:FS:=⟨[.rd Gj],[Gj],qj,none⟩
def Ay:FS:=⟨[.rd La],[La],qk,none⟩
def sb:FS:=⟨[.rd Yp],[lB],kE,none⟩
def qR:FS:=⟨[.rd y25],[y37],jw,none⟩
def Az:FS:=⟨[.rd YX],[xR],ql,none⟩
def xZ:FS:=⟨[.rd y54],[y59],oK,none⟩
def CJ:FS:=⟨[.rd y56],[y61],ta,none⟩
def qS:FS:=⟨[.rd Yq],[w8],jx,none⟩
def pC:FS:=⟨[.rd y26],[y38],iM,none⟩
def tS:FS:=⟨[.rd y28],[y40],lU,none⟩
def qT:FS:=⟨[.rd YW],[y88],jy,none⟩
def pD:FS:=⟨[.rd y29],[y41],iN,none⟩
def ya:FS:=⟨[.rd y31],[y43],iu,none⟩
def iW:FS:=⟨[.rd y3,.rd y3,.rd y3],[y4],cd,none⟩
def xc:FS:=⟨[.rd G5,.rd y3],[y4],jY,none⟩
def qU:FS:=⟨[.rd EO],[y4],cA,none⟩
def c8:FS:=⟨[.rd y91,.rd y91],[y4],cg,none⟩
def kU:FS:=⟨[.rd y36],[y4],m_i_IsValidHistory,none⟩
def sd:FS:=⟨[.rd y3],[y4],jZ,none⟩
def AA:FS:=⟨[.rd xR],[y4],qm,none⟩
def bO:FS:=⟨[.rd Yr],[Yr],fun _=>none,some (274,8)⟩
def tl:FS:=⟨[.rd y61],[t274],nt,none⟩
def CK:FS:=⟨[.rd y61],[y4],tc,none⟩
def se:FS:=⟨[.rd y61],[y4],kG,none⟩
def mc (n:Nat):FS:=⟨[.rd t274],[y3],bV n,none⟩
def JZ:FS:=⟨[.rd y3],[t274],DR,none⟩
def oO (n:Nat):FS:=⟨[.eat t274,.rd y3,.rd y3],[t274],j4 n,none⟩
def kV (n:Nat):FS:=⟨[.rd t274],[t274],bF n,none⟩
def jL (n:Nat):FS:=⟨[.rd t274,.ptr 61 y61],[],bD n,none⟩
def vR:FS:=⟨[.rd t274],[y61],qo,none⟩
def tT:FS:=⟨[.rd y61],[y61,y4],lV,none⟩
def mO:FS:=⟨[.ptr 230 JY,.rd y3,.rd y3],[],dH,none⟩
def gz (n:Nat):FS:=⟨[.ptr 230 JY,.rd t274],[ZG],bG n,none⟩
def oP:FS:=⟨[.rd y61],[JY,y4],gQ,none⟩
def mJ:FS:=⟨[.rd y3,.rd y3,.fn [y3] [y4],.fn [y3,y3] [y3,y4]],[lB,y4],eQ,none⟩
def mw:FS:=⟨[.rd JY,.rd y3],[y4],dx,none⟩
def nP:FS:=⟨[.rd JY,.rd y3,.rd y3],[y3],gi,none⟩
def pE:FS:=⟨[.rd y3,.rd y3,.cap 230 JY],[y3,y4],dj,none⟩
def sf:FS:=⟨[.rd JY,.rd y3],[lB,y4],iw,none⟩
def bR:FS:=⟨[.rd Gj],[Gj],fun _=>none,some (4,1)⟩
def oQ:FS:=⟨[.rd lB],[Gj],eW,none⟩
def eJ:FS:=⟨[.rd La,.fn [y91] [y4]],[y3],bX,none⟩
def k9:FS:=⟨[.rd y91,.cap 91 y91],[y4],gM,none⟩
def mP:FS:=⟨[.rd lB,.rd y91],[y91,y3],dI,none⟩
def my:FS:=⟨[.rd lB],[y91],dA,none⟩
def nQ:FS:=⟨[.rd Xv,.rd Xv],[Xv,Xv],uF,none⟩
def nR:FS:=⟨[.rd Xu,.rd Xu],[Xu,Xu],nL,none⟩
def pF:FS:=⟨[.rd Xt,.rd Xt],[Xt,Xt],pw,none⟩
def iB:FS:=⟨[.rd y91,.rd y3],[y91],iy,none⟩
def AB:FS:=⟨[],[lB],uG,none⟩
def jb:FS:=⟨[.rd y91,.rd y3],[y3],eL,none⟩
def j6:FS:=⟨[.rd y3,.cap 91 y91],[y3],bc,none⟩
def j7:FS:=⟨[.rd y3,.cap 189 lB,.capf 308 [y3] [y3]],[y4],cH,none⟩
def oR:FS:=⟨[.rd lB,.rd y3,.rd y3],[y3],eX,none⟩
def j8:FS:=⟨[.rd y3,.rd y3,.cap 189 lB,.capf 308 [y3] [y3],.cap 91 y91],[y3,y4],cJ,none⟩
def ld:FS:=⟨[.rd lB],[lB],df,none⟩
def Gk:FS:=⟨[.rd lB],[lB,y4],An,none⟩
def sg:FS:=⟨[.rd y61],[lB,y4],iz,none⟩
def c7:FS:=⟨[.rd y37,.fn [lB] [y4]],[y3],ba,none⟩
def gT:FS:=⟨[.rd Gj,.rd Gj],[y4],dM,none⟩
def cq:FS:=⟨[.rd La,.rd La,.fn [y91,y91] [y4]],[y4],bQ,none⟩
def nS:FS:=⟨[.rd y91,.rd y91],[y4],gj,none⟩
def lE:FS:=⟨[.rd lB,.rd lB],[y4],dU,none⟩
def yc:FS:=⟨[.rd lB,.cap 189 lB],[y4],mo,none⟩
def si:FS:=⟨[.rd y61],[y61],fV,none⟩
def xd:FS:=⟨[.rd y38],[y40,y4],px,none⟩
def bL:FS:=⟨[.rd y37,.rd y37,.fn [lB,lB] [y4]],[y4],a7,none⟩
def bE:FS:=⟨[.rd y38,.rd y38,.fn [w8,w8] [y4]],[y4],aV,none⟩
def fX:FS:=⟨[.rd y59,.rd y59],[y4],cn,none⟩
def tU:FS:=⟨[.rd y61,.rd y61],[y4],lW,none⟩
def qV:FS:=⟨[.rd w8,.rd w8],[y4],gF,none⟩
def nT:FS:=⟨[.rd y40,.rd y40],[y4],gk,none⟩
def jU:FS:=⟨[.rd y40],[y4],cD,none⟩
def pG:FS:=⟨[.rd y36],[y3],iO,none⟩
def cO:FS:=⟨[.rd y38,.fn [w8] [y4]],[y3],bW,none⟩
def sj:FS:=⟨[.rd w8,.cap 3 y3],[y4],kI,none⟩
def qz:FS:=⟨[.rd y40,.rd y3],[y3],iP,none⟩
def mz:FS:=⟨[.rd y9,.rd y5],[.int .i64],eY,none⟩
def qW:FS:=⟨[.rd y3],[.str],mG,none⟩
def qA:FS:=⟨[.rd y3],[y9],dm,none⟩
def o9:FS:=⟨[.rd G5],[y9],jm,none⟩
def qX:FS:=⟨[.rd YY,.rd y9],[.str],jz,none⟩
def nU:FS:=⟨[.rd y73],[y9],ep,none⟩
def yd:FS:=⟨[.rd y9],[y3],j5,none⟩
def qY:FS:=⟨[.rd y3,.rd y73],[y9],gG,none⟩
def lF:FS:=⟨[.rd y9,.rd y9],[.sl 9 .str],cK,none⟩
def sk:FS:=⟨[.rd y9],[.int .i64,.bool],fW,none⟩
def sn:FS:=⟨[.rd y9,.rd y9],[.str,.str,.bool],cX,none⟩
def vS:FS:=⟨[.rd y9],[G5,y4],gl,none⟩
def tV:FS:=⟨[.rd y9],[y73,y4],dR,none⟩
def qZ:FS:=⟨[.rd y9],[y3,y73,y4],jA,none⟩
def AC:FS:=⟨[.rd y9],[y91,.sl 73 (.bag y73),y3],m_i_ScanLog,none⟩
def pH:FS:=⟨[.rd y43],[y4],iQ,none⟩
def xe:FS:=⟨[.rd y91,.rd y91],[y4],tf,none⟩
def CL:FS:=⟨[.rd G5,.rd G5],[y4],tg,none⟩
def AD:FS:=⟨[.rd VM,.rd VM],[y4],uH,none⟩
def AE:FS:=⟨[.rd EO,.rd EO],[y4],qp,none⟩
def ye:FS:=⟨[.rd y34,.rd y34],[y4],rR,none⟩
def vT:FS:=⟨[.rd y36,.rd y36],[y4],mY,none⟩
def AF:FS:=⟨[.rd Gj,.rd Gj],[y4],uI,none⟩
def AG:FS:=⟨[.rd La,.rd La],[y4],uJ,none⟩
def so:FS:=⟨[.rd lB,.rd lB],[y4],kK,none⟩
def q7:FS:=⟨[.rd y37,.rd y37],[y4],mH,none⟩
def AH:FS:=⟨[.rd xR,.rd xR],[y4],qq,none⟩
def yf:FS:=⟨[.rd y59,.rd y59],[y4],rS,none⟩
def CM:FS:=⟨[.rd y61,.rd y61],[y4],th,none⟩
def q8:FS:=⟨[.rd w8,.rd w8],[y4],jB,none⟩
def pI:FS:=⟨[.rd y38,.rd y38],[y4],lx,none⟩
def tW:FS:=⟨[.rd y40,.rd y40],[y4],l5,none⟩
def q9:FS:=⟨[.rd y88,.rd y88],[y4],jC,none⟩
def pJ:FS:=⟨[.rd y41,.rd y41],[y4],lz,none⟩
def yg:FS:=⟨[.rd y43,.rd y43],[y4],iA,none⟩
def CN:FS:=⟨[.rd EO],[EO],py,none⟩
def CO:FS:=⟨[.rd y36],[y36],tj,none⟩
def AI:FS:=⟨[.rd lB],[lB],qu,none⟩
def uN:FS:=⟨[.rd y40],[y40],lA,none⟩
def AJ:FS:=⟨[.rd y43],[y43],qv,none⟩
def sp:FS:=⟨[.rd y91],[y91],mq,none⟩
def vU:FS:=⟨[.rd EO],[EO],kN,none⟩
def sq:FS:=⟨[.rd y36],[y36],kO,none⟩
def pK:FS:=⟨[.rd lB],[lB],iR,none⟩
def mK:FS:=⟨[.rd y40],[y40],eR,none⟩
def tX:FS:=⟨[.rd y43],[y43],l6,none⟩
def su:FS:=⟨[.ow y91,.rd y3],[y3],mr,none⟩
def vV:FS:=⟨[.ow VM,.rd y3],[y3],mZ,none⟩
def tY:FS:=⟨[.ow y34,.rd y3],[y3],l7,none⟩
def sv:FS:=⟨[.ow y36,.rd y3],[y3],kQ,none⟩
def vW:FS:=⟨[.ow Gj,.rd y3],[y3],na,none⟩
def vX:FS:=⟨[.ow La,.rd y3],[y3],nc,none⟩
def oS:FS:=⟨[.ow y37,.rd y3],[y3],gR,none⟩
def tZ:FS:=⟨[.ow y59,.rd y3],[y3],l8,none⟩
def nV:FS:=⟨[.ow y38,.rd y3],[y3],gp,none⟩
def ra:FS:=⟨[.ow y40,.rd y3],[y3],jG,none⟩
def nW:FS:=⟨[.ow y41,.rd y3],[y3],gq,none⟩
def ua:FS:=⟨[.ow y43,.rd y3],[y3],fg,none⟩
def sw:FS:=⟨[.rd y91,.rd y3],[y3],mu,none⟩
def vY:FS:=⟨[.rd VM,.rd y3],[y3],nf,none⟩
def ub:FS:=⟨[.rd y34,.rd y3],[y3],l9,none⟩
def sx:FS:=⟨[.rd y36,.rd y3],[y3],kS,none⟩
def vZ:FS:=⟨[.rd Gj,.rd y3],[y3],ng,none⟩
def v7:FS:=⟨[.rd La,.rd y3],[y3],nh,none⟩
def oT:FS:=⟨[.rd y37,.rd y3],[y3],gS,none⟩
def uc:FS:=⟨[.rd y59,.rd y3],[y3],ma,none⟩
def nX:FS:=⟨[.rd y38,.rd y3],[y3],gr,none⟩
def rb:FS:=⟨[.rd y40,.rd y3],[y3],jK,none⟩
def nY:FS:=⟨[.rd y41,.rd y3],[y3],gu,none⟩
def ud:FS:=⟨[.rd y43,.rd y3],[y3],gK,none⟩
def nZ:FS:=⟨[.rd y40,.rd y3],[y40,y4],gx,none⟩
def mQ:FS:=⟨[.rd y43,.rd y3],[y43,y4],fC,none⟩
def dh:FS:=⟨[.eat (.sl 137 (.fro w8)),.rd y3,.rd y3],[.sl 137 (.fro w8)],bH,none⟩
def dk:FS:=⟨[.rd y38],[.sl 137 (.fro w8)],bJ,none⟩
def n7:FS:=⟨[.rd y40,.rd y3],[y40,y4],gy,none⟩
def cP:FS:=⟨[.rd y41,.fn [y88] [y4]],[y3],aZ,none⟩
def cM:FS:=⟨[.eat (.sl 88 y88),.fn [y88] [y4]],[.sl 88 y88],aX,none⟩
def lf:FS:=⟨[.rd y88,.cap 3 y3],[y4],eI,none⟩
def mR:FS:=⟨[.rd y43,.rd y3],[y43,y4],dK,none⟩
def n8:FS:=⟨[.rd y31,.rd y3],[y4],cZ,none⟩
end R
namespace R
open Go.RowKit
open D
theorem CP:FOk Tryz.prog 206 w9:=fk [] trivial Tryz.func206 .no
theorem H5:FOk Tryz.prog 207 Ao:=fk [] trivial Tryz.func207 .no
theorem H6:FOk Tryz.prog 149 Ap:=fk [(206,w9),(207,Ao)] ⟨CP,H5,trivial⟩ Tryz.func149 .no
theorem Gl:FOk Tryz.prog 95 xS:=fk [(149,Ap)] ⟨H6,trivial⟩ Tryz.func95 (.two .no (.two .no (.two .no (.two (.two .no (.loop [.slot 1 (.num .i64),.slot 5 (.num .i64)] .no)) .no))))
theorem DS:FOk Tryz.prog 40 vL:=fk [(95,xS)] ⟨Gl,trivial⟩ Tryz.func40 .no
theorem H7:FOk Tryz.prog 208 Aq:=fk [] trivial Tryz.func208 .no
theorem H8:FOk Tryz.prog 209 Ar:=fk [(206,w9)] ⟨CP,trivial⟩ Tryz.func209 (.two .no (.two .no (.two .no (.two (.two .no (.loop [.slot 1 (.num .i64),.slot 5 (.num .i64)] .no)) .no))))
theorem AK:FOk Tryz.prog 150 rT:=fk [(208,Aq),(209,Ar)] ⟨H7,H8,trivial⟩ Tryz.func150 .no
theorem yA:FOk Tryz.prog 96 qM:=fk [(150,rT)] ⟨AK,trivial⟩ Tryz.func96 (.two .no (.two .no (.two .no (.two (.two .no (.loop [.slot 1 (.num .i64),.slot 5 (.num .i64)] .no)) .no))))
theorem Gn:FOk Tryz.prog 82 xT:=fk [] trivial Tryz.func82 .no
theorem Lb:FOk Tryz.prog 28 CC:=fk [(82,xT)] ⟨Gn,trivial⟩ Tryz.func28 .no
theorem yB:FOk Tryz.prog 151 qN:=fk [(28,CC)] ⟨Lb,trivial⟩ Tryz.func151 .no
theorem xf:FOk Tryz.prog 97 pz:=fk [(151,qN)] ⟨yB,trivial⟩ Tryz.func97 (.two .no (.two .no (.two .no (.two (.two .no (.loop [.slot 1 (.num .i64),.slot 5 (.num .i64)] .no)) .no))))
theorem BC:FOk Tryz.prog 41 tK:=fk [(96,qM),(97,pz)] ⟨yA,xf,trivial⟩ Tryz.func41 .no
theorem xg:FOk Tryz.prog 42 pA:=fk [] trivial Tryz.func42 .no
theorem Gp:FOk Tryz.prog 11 xU:=fk [(40,vL),(41,tK),(42,pA)] ⟨DS,BC,xg,trivial⟩ Tryz.func11 .no
theorem nk:FOk Tryz.prog 59 mb:=fk [] trivial Tryz.func59 .no
end R
namespace R
open Go.RowKit
open D
theorem Lc:FOk Tryz.prog 152 CD:=fk [(59,mb)] ⟨nk,trivial⟩ Tryz.func152 .no
theorem yC:FOk Tryz.prog 98 qO:=fk [(59,mb),(152,CD)] ⟨nk,Lc,trivial⟩ Tryz.func98 (.two .no (.two (.two .no (.loop [.slot 3 (.num .i64)] .no)) (.two (.two .no (.loop [.slot 4 (.num .i64)] .no)) .no)))
theorem AL:FOk Tryz.prog 99 vM:=fk [] trivial Tryz.func99 (.two .no (.two (.two .no (.loop [.slot 5 (.num .i64)] .no)) .no))
theorem oU:FOk Tryz.prog 43 kT:=fk [(59,mb),(98,qO),(99,vM)] ⟨nk,yC,AL,trivial⟩ Tryz.func43 (.two .no (.two (.two .no (.loop [.slot 3 (.num .i64)] .no)) .no))
theorem yh:FOk Tryz.prog 276 rU:=fk [(59,mb)] ⟨nk,trivial⟩ Tryz.func276 .no
theorem AM:FOk Tryz.prog 322 uK:=fk [(59,mb),(276,rU)] ⟨nk,yh,trivial⟩ Tryz.func322 (.two .no (.two (.two .no (.join [.slot 5 .boo] .no (.two .no (.two .no (.two .no (.join [.slot 37 .boo] .no .no)))))) .no))
theorem Ld:FOk Tryz.prog 319 CE:=fk [(322,uK)] ⟨AM,trivial⟩ Tryz.func319 (.two .no (.two .no (.two (.two .no (.loop [.slot 3 (.num .i64),.slot 4 (.num .i64)] .no)) .no)))
theorem AN:FOk Tryz.prog 281 rV:=fk [(319,CE)] ⟨Ld,trivial⟩ Tryz.func281 .no
theorem uO:FOk Tryz.prog 284 qw:=fk [(322,uK)] ⟨AM,trivial⟩ Tryz.func284 (.two .no (.two .no (.two .no (.two (.loop [.slot 3 (.num .i64),.slot 4 (.num .i64)] .no) .no))))
theorem AO: ∀n,FOk Tryz.prog 282 (qx n)
 | 0=>ky (f:=qx 0) (enters_of Tryz.func282 (by kernel_rfl) rfl) rfl (fun d=>rfl)
 | n+1=>by
  have ih:=AO n
  exact fk [(282,(qx n)),(284,qw)] ⟨ih,uO,trivial⟩ Tryz.func282 (.two .no (.two .no (.two .no (.two (.two .no (.two (.two .no (.at [.slot 15 .boo] .no)) .no)) .no))))
theorem xh:FOk Tryz.prog 155 tk:=fk [] trivial Tryz.func155 .no
theorem CQ:FOk Tryz.prog 320 xa:=fk [(155,tk)] ⟨xh,trivial⟩ Tryz.func320 .no
theorem Le:FOk Tryz.prog 343 CF:=fk [] trivial Tryz.func343 .no
theorem yi: ∀n,FOk Tryz.prog 321 (oL n)
 | 0=>ky (f:=oL 0) (enters_of Tryz.func321 (by kernel_rfl) rfl) rfl (fun d=>rfl)
 | n+1=>by
  have ih:=yi n
  exact fk [(320,xa),(321,(oL n)),(343,CF)] ⟨CQ,ih,Le,trivial⟩ Tryz.func321 .no
theorem v8: ∀n,FOk Tryz.prog 283 (ni n)
 | 0=>ky (f:=ni 0) (enters_of Tryz.func283 (by kernel_rfl) rfl) rfl (fun d=>rfl)
 | n+1=>by
  have ih:=v8 n
  exact fk [(283,(ni n)),(284,qw),(320,xa),(321,(oL gB))] ⟨ih,uO,CQ,(yi gB),trivial⟩ Tryz.func283 (.two .no (.two .no (.two .no (.two (.two .no (.two (.two .no (.at [.slot 15 .boo] .no)) .no)) .no))))
theorem BD:FOk Tryz.prog 248 tL:=fk [(281,rV),(282,(qx gB)),(283,(ni gB))] ⟨AN,(AO gB),(v8 gB),trivial⟩ Tryz.func248 .no
theorem H9:FOk Tryz.prog 285 As:=fk [] trivial Tryz.func285 (.two .no (.loop [.slot 6 (.num .i64),.par 3 [3] 3 y3] (.two .no (.two (.at [.par 3 [3] 3 y3] .no) .no))))
end R
namespace R
open Go.RowKit
open D
theorem yj: ∀n,FOk Tryz.prog 249 (oM n)
 | 0=>ky (f:=oM 0) (enters_of Tryz.func249 (by kernel_rfl) rfl) rfl (fun d=>rfl)
 | n+1=>by
  have ih:=yj n
  exact fk [(249,(oM n)),(284,qw),(285,As)] ⟨ih,uO,H9,trivial⟩ Tryz.func249 (.two .no (.two .no (.two .no (.two (.two .no (.two .no (.two .no (.two .no (.two .no (.two .no (.two (.two .no (.two .no (.two .no (.two .no (.two .no (.two (.two .no (.at [.box 11 [.boo,(.num .i64),(.num .i64)]] .no)) (.two (.two .no (.at [.box 11 [.boo,(.num .i64),(.num .i64)]] .no)) .no))))))) .no))))))) .no))))
theorem wc:FOk Tryz.prog 210 oN:=fk [(248,tL),(249,(oM gB))] ⟨BD,(yj gB),trivial⟩ Tryz.func210 (.two .no (.two .no (.two .no (.two .no (.two (.two .no (.loop [.slot 6 (.num .i64),.slot 7 (.num .i64)] (.two .no (.two (.at [.slot 6 (.num .i64)] .no) .no)))) .no)))))
theorem Gq:FOk Tryz.prog 250 xV:=fk [] trivial Tryz.func250 (.two .no (.two .no (.join [.slot 7 (.num .i64)] .no (.two (.two .no (.loop [.slot 7 (.num .i64),.slot 8 (.num .i64)] (.two .no (.join [.slot 7 (.num .i64)] .no .no)))) (.two .no (.two (.two .no (.loop [.slot 9 (.num .i64),.slot 10 (.num .i64)] (.two .no (.join [.slot 9 (.num .i64)] .no .no)))) .no))))))
theorem AP:FOk Tryz.prog 251 uL:=fk [] trivial Tryz.func251 (.two .no (.two (.two .no (.loop [.slot 5 (.num .i64)] .no)) .no))
theorem BE:FOk Tryz.prog 252 tM:=fk [] trivial Tryz.func252 .no
theorem BF:FOk Tryz.prog 211 tN:=fk [(250,xV),(251,uL),(252,tM)] ⟨Gq,AP,BE,trivial⟩ Tryz.func211 (.two .no (.two .no (.two .no (.two (.two .no (.loop [.slot 7 (.own 3 y3),.slot 8 (.num .i64),.box 6 [(.num .i64),(.own 4 y4),(.own 91 y91)]] (.two .no (.two (.two .no (.two (.two .no (.loop [.slot 7 (.own 3 y3),.slot 9 (.own 3 y3),.slot 10 (.num .i64)] (.two .no (.two (.two .no (.two .no (.join [.slot 7 (.own 3 y3),.slot 12 (.num .i64)] .no .no))) .no)))) .no)) .no)))) .no))))
theorem BG:FOk Tryz.prog 286 tO:=fk [] trivial Tryz.func286 (.two .no (.two .no (.two (.two .no (.loop [.slot 1 (.own 3 y3),.slot 2 (.num .i64)] .no)) .no)))
theorem DT:FOk Tryz.prog 253 vN:=fk [(251,uL),(286,tO)] ⟨AP,BG,trivial⟩ Tryz.func253 (.two .no (.two .no (.two .no (.two .no (.two .no (.two (.two .no (.loop [.slot 8 (.own 3 y3),.slot 9 (.own 3 y3),.slot 10 (.num .i64),.box 7 [(.num .i64),(.own 4 y4),(.own 91 y91)]] (.two .no (.two (.two .no (.two (.two .no (.loop [.slot 8 (.own 3 y3),.slot 9 (.own 3 y3),.slot 11 (.own 3 y3),.slot 12 (.num .i64)] (.two .no (.two (.two .no (.two .no (.join [.slot 8 (.own 3 y3),.slot 9 (.own 3 y3),.slot 14 (.num .i64)] .no .no))) .no)))) .no)) .no)))) .no))))))
theorem AQ:FOk Tryz.prog 255 uM:=fk [] trivial Tryz.func255 (.two .no (.two .no (.two (.two .no (.loop [.row 3 4 y4,.slot 4 (.num .i64)] (.two .no (.two (.two .no (.loop [.row 3 4 y4,.slot 5 (.num .i64)] (.two .no (.two (.two .no (.loop [.row 3 4 y4,.slot 6 (.num .i64)] (.two .no (.join [.row 3 4 y4] .no .no)))) .no)))) .no)))) .no)))
theorem Lf:FOk Tryz.prog 287 CG:=fk [] trivial Tryz.func287 (.two .no (.two .no (.two (.two .no (.loop [.slot 7 (.own 3 y3),.slot 8 (.num .i64)] (.two .no (.join [.slot 7 (.own 3 y3)] .no .no)))) .no)))
theorem BH:FOk Tryz.prog 254 tP:=fk [(99,vM),(255,uM),(287,CG)] ⟨AL,AQ,Lf,trivial⟩ Tryz.func254 (.two .no (.two .no (.two .no (.two (.two .no (.loop [.slot 4 (.own 3 y3),.slot 5 (.num .i64)] (.two .no (.two (.two .no (.two (.two .no (.at [.slot 6 (.num .i64)] .no)) (.two (.two .no (.at [.slot 6 (.num .i64)] .no)) .no))) .no)))) (.two (.two .no (.loop [.slot 4 (.own 3 y3),.slot 7 (.num .i64)] (.two .no (.two (.two .no (.two .no (.two (.two .no (.loop [.slot 8 (.own 91 y91),.slot 9 (.own 3 y3),.slot 10 (.num .i64)] (.two .no (.two (.at [.slot 8 (.own 91 y91),.slot 9 (.own 3 y3)] (.two .no (.two .no (.two .no (.two (.two .no (.loop [.slot 12 (.num .i64),.slot 13 (.num .i64)] (.two .no (.two (.at [.slot 12 (.num .i64)] .no) .no)))) (.two (.two .no (.at [.slot 8 (.own 91 y91),.slot 12 (.num .i64),.gone 11] .no)) .no)))))) .no)))) .no))) .no)))) .no)))))
theorem AR:FOk Tryz.prog 212 rW:=fk [(253,vN),(254,tP),(255,uM)] ⟨DT,BH,AQ,trivial⟩ Tryz.func212 .no
theorem AS:FOk Tryz.prog 153 rX:=fk [(210,oN),(211,tN),(212,rW)] ⟨wc,BF,AR,trivial⟩ Tryz.func153 .no
theorem pL:FOk Tryz.prog 156 lC:=fk [(99,vM)] ⟨AL,trivial⟩ Tryz.func156 (.two .no (.two .no (.two (.two .no (.loop [.slot 5 (.num .i64)] .no)) (.two (.two .no (.loop [.slot 6 (.num .i64)] .no)) .no))))
theorem Gr:FOk Tryz.prog 154 xW:=fk [(156,lC)] ⟨pL,trivial⟩ Tryz.func154 (.two .no (.two (.two .no (.loop [.slot 5 (.num .i64)] .no)) .no))
theorem yk:FOk Tryz.prog 100 rY:=fk [(59,mb),(153,rX),(154,xW),(155,tk)] ⟨nk,AS,Gr,xh,trivial⟩ Tryz.func100 (.two .no (.two .no (.two .no (.two (.two .no (.loop [.slot 5 (.num .i64),.box 4 [(.own 189 lB),(.own 137 w8)]] (.two .no (.two (.two .no (.two .no (.two .no (.join [.slot 8 (.num .i64),.box 4 [(.own 189 lB),(.own 137 w8)],.gone 6] .no .no)))) .no)))) .no))))
theorem BI:FOk Tryz.prog 157 tQ:=fk [] trivial Tryz.func157 (.two .no (.two .no (.two (.two .no (.loop [.slot 5 (.num .i64)] .no)) .no)))
end R
namespace R
open Go.RowKit
open D
theorem uP:FOk Tryz.prog 101 nN:=fk [(156,lC),(157,tQ)] ⟨pL,BI,trivial⟩ Tryz.func101 (.two .no (.two .no (.two (.two .no (.loop [.slot 5 (.num .i64)] .no)) (.two (.two .no (.loop [.slot 6 (.num .i64)] .no)) .no))))
theorem n9:FOk Tryz.prog 44 jT:=fk [(100,rY),(101,nN)] ⟨yk,uP,trivial⟩ Tryz.func44 .no
theorem pM:FOk Tryz.prog 63 lD:=fk [(43,kT)] ⟨oU,trivial⟩ Tryz.func63 .no
theorem we:FOk Tryz.prog 79 qy:=fk [] trivial Tryz.func79 (.two .no (.two (.two .no (.loop [.slot 5 (.num .i64)] .no)) .no))
theorem Ia:FOk Tryz.prog 45 At:=fk [(59,mb),(63,lD),(79,qy)] ⟨nk,pM,we,trivial⟩ Tryz.func45 (.two .no (.two (.two .no (.loop [.slot 3 (.num .i64)] .no)) .no))
theorem qB:FOk Tryz.prog 144 nj:=fk [] trivial Tryz.func144 (.two .no (.two .no (.two .no (.two .no (.two (.loop [.slot 0 (.num .i64),.slot 3 .str] (.two .no (.two .no (.two (.two .no (.at [.slot 5 (.num .i64)] .no)) .no)))) .no)))))
theorem re:FOk Tryz.prog 243 mI:=fk [(276,rU)] ⟨yh,trivial⟩ Tryz.func243 .no
theorem ue:FOk Tryz.prog 200 o8:=fk [(59,mb),(144,nj),(243,mI)] ⟨nk,qB,re,trivial⟩ Tryz.func200 .no
theorem sy:FOk Tryz.prog 143 nO:=fk [(200,o8)] ⟨ue,trivial⟩ Tryz.func143 (.two .no (.two .no (.two .no (.two (.two .no (.loop [.slot 3 .str,.slot 4 (.num .i64)] (.two .no (.two (.atX [.slot 3 .str] (.two .no (.two .no (.two (.two .no (.at [.slot 3 .str] .no)) .no)))) .no)))) .no))))
theorem Gs:FOk Tryz.prog 145 xX:=fk [] trivial Tryz.func145 (.two .no (.two .no (.two (.two .no (.loop [.slot 3 (.num .i64),.slot 4 (.num .i64)] .no)) .no)))
theorem yD:FOk Tryz.prog 90 qP:=fk [(59,mb),(143,nO),(144,nj),(145,xX)] ⟨nk,sy,qB,Gs,trivial⟩ Tryz.func90 .no
theorem AT:FOk Tryz.prog 177 vO:=fk [] trivial Tryz.func177 (.two .no (.two .no (.two .no (.two (.two .no (.loop [.slot 5 (.own 9 y9),.slot 6 (.num .i64),.slot 7 (.num .i64)] (.two .no (.two (.at [.slot 5 (.own 9 y9),.slot 6 (.num .i64)] .no) .no)))) .no))))
theorem ym:FOk Tryz.prog 178 rZ:=fk [(144,nj)] ⟨qB,trivial⟩ Tryz.func178 (.two .no (.two .no (.two .no (.two (.two .no (.loop [.slot 4 (.num .i64),.slot 5 (.num .i64),.slot 6 (.num .i64)] (.two .no (.two (.at [.slot 4 (.num .i64),.slot 5 (.num .i64)] .no) .no)))) (.two (.two .no (.at [.slot 4 (.num .i64)] .no)) .no)))))
theorem AU:FOk Tryz.prog 271 sa:=fk [(243,mI)] ⟨re,trivial⟩ Tryz.func271 (.two .no (.two (.two .no (.loop [.slot 4 (.num .i64)] .no)) .no))
theorem DU:FOk Tryz.prog 232 vP:=fk [(177,vO),(178,rZ),(200,o8),(271,sa)] ⟨AT,ym,ue,AU,trivial⟩ Tryz.func232 .no
theorem BJ:FOk Tryz.prog 179 tR:=fk [(143,nO),(177,vO),(232,vP)] ⟨sy,AT,DU,trivial⟩ Tryz.func179 (.two .no (.two .no (.two .no (.two .no (.two (.two .no (.loop [.slot 6 (.num .i64),.box 4 [(.own 170 (.prod y4 G5))]] .no)) .no)))))
theorem yE:FOk Tryz.prog 118 qQ:=fk [(90,qP),(177,vO),(178,rZ),(179,tR)] ⟨yD,AT,ym,BJ,trivial⟩ Tryz.func118 .no
end R
namespace R
open Go.RowKit
open D
theorem Ib:FOk Tryz.prog 60 Au:=JV (ps:=[.rd y9]) (A:=y91) (E:=73) (t:=y73) (B:=y3) (m:=m_s_ScanLog) (fk [(118,qQ)] ⟨yE,trivial⟩ Tryz.func60 (.two .no (.two .no (.two .no (.two .no (.two (.two .no (.loop [.slot 5 (.own 3 y3),.slot 6 (.own 73 y73),.slot 7 (.num .i64),.slot 8 (.num .i64)] (.two .no (.two (.atX [.slot 5 (.own 3 y3),.slot 6 (.own 73 y73),.slot 7 (.num .i64)] .no) .no)))) .no))))))
theorem Lg:FOk Tryz.prog 46 CH:=fk [(60,Au),(63,lD)] ⟨Ib,pM,trivial⟩ Tryz.func46 .no
theorem xi:FOk Tryz.prog 12 pB:=fk [(43,kT),(44,jT),(45,At),(46,CH)] ⟨oU,n9,Ia,Lg,trivial⟩ Tryz.func12 .no
theorem CR:FOk Tryz.prog 213 xb:=fk [] trivial Tryz.func213 (.two .no (.two .no (.two (.two .no (.loop [.row 3 3 y3,.slot 4 (.num .i64)] .no)) .no)))
theorem Lh:FOk Tryz.prog 201 CI:=fk [] trivial Tryz.func201 .no
theorem Ic:FOk Tryz.prog 214 Av:=fk [(201,CI)] ⟨Lh,trivial⟩ Tryz.func214 (.two .no (.two .no (.two (.two .no (.loop [.row 3 168 G5,.slot 4 (.num .i64)] .no)) .no)))
theorem Ie:FOk Tryz.prog 158 Aw:=fk [(213,xb),(214,Av)] ⟨CR,Ic,trivial⟩ Tryz.func158 .no
theorem Gt:FOk Tryz.prog 102 xY:=fk [(158,Aw)] ⟨Ie,trivial⟩ Tryz.func102 (.two .no (.two .no (.two (.two .no (.loop [.row 3 126 EO,.slot 4 (.num .i64)] .no)) .no)))
theorem DV:FOk Tryz.prog 47 vQ:=fk [(102,xY)] ⟨Gt,trivial⟩ Tryz.func47 .no
theorem If:FOk Tryz.prog 215 Ax:=fk [] trivial Tryz.func215 (.two .no (.two .no (.two (.two .no (.loop [.row 3 4 y4,.slot 4 (.num .i64)] .no)) .no)))
theorem Ig:FOk Tryz.prog 216 Ay:=fk [(213,xb)] ⟨CR,trivial⟩ Tryz.func216 (.two .no (.two .no (.two (.two .no (.loop [.row 3 91 y91,.slot 4 (.num .i64)] .no)) .no)))
theorem AW:FOk Tryz.prog 159 sb:=fk [(215,Ax),(216,Ay)] ⟨If,Ig,trivial⟩ Tryz.func159 .no
theorem yF:FOk Tryz.prog 103 qR:=fk [(159,sb)] ⟨AW,trivial⟩ Tryz.func103 (.two .no (.two .no (.two (.two .no (.loop [.row 3 189 lB,.slot 4 (.num .i64)] .no)) .no)))
theorem Ih:FOk Tryz.prog 139 Az:=fk [] trivial Tryz.func139 .no
theorem Gu:FOk Tryz.prog 84 xZ:=fk [(139,Az)] ⟨Ih,trivial⟩ Tryz.func84 (.two .no (.two .no (.two (.two .no (.loop [.row 3 161 xR,.slot 4 (.num .i64)] .no)) .no)))
theorem Li:FOk Tryz.prog 30 CJ:=fk [(84,xZ)] ⟨Gu,trivial⟩ Tryz.func30 .no
theorem yG:FOk Tryz.prog 160 qS:=fk [(30,CJ)] ⟨Li,trivial⟩ Tryz.func160 .no
end R
namespace R
open Go.RowKit
open D
theorem xj:FOk Tryz.prog 104 pC:=fk [(160,qS)] ⟨yG,trivial⟩ Tryz.func104 (.two .no (.two .no (.two (.two .no (.loop [.row 3 137 w8,.slot 4 (.num .i64)] .no)) .no)))
theorem BK:FOk Tryz.prog 48 tS:=fk [(103,qR),(104,pC)] ⟨yF,xj,trivial⟩ Tryz.func48 .no
theorem yH:FOk Tryz.prog 105 qT:=fk [] trivial Tryz.func105 .no
theorem xk:FOk Tryz.prog 49 pD:=fk [(105,qT)] ⟨yH,trivial⟩ Tryz.func49 (.two .no (.two .no (.two (.two .no (.loop [.row 3 88 y88,.slot 4 (.num .i64)] .no)) .no)))
theorem Gv:FOk Tryz.prog 13 ya:=fk [(47,vQ),(48,tS),(49,pD)] ⟨DV,BK,xk,trivial⟩ Tryz.func13 .no
theorem j9:FOk Tryz.prog 53 iW:=fk [] trivial Tryz.func53 .no
theorem CS:FOk Tryz.prog 161 xc:=fk [(53,iW)] ⟨j9,trivial⟩ Tryz.func161 .no
theorem yI:FOk Tryz.prog 106 qU:=fk [(53,iW),(161,xc)] ⟨j9,CS,trivial⟩ Tryz.func106 (.two .no (.two .no (.two (.two .no (.loop [.slot 14 (.num .i64)] .no)) (.two (.two .no (.loop [.slot 25 (.num .i64)] .no)) .no))))
theorem eM:FOk Tryz.prog 107 c8:=fk [] trivial Tryz.func107 (.two .no (.two .no (.two (.two .no (.loop [.slot 13 (.num .i64)] .no)) .no)))
theorem oV:FOk Tryz.prog 50 kU:=fk [(53,iW),(106,qU),(107,c8)] ⟨j9,yI,eM,trivial⟩ Tryz.func50 (.two .no (.two .no (.two .no (.two (.two .no (.loop [.slot 24 (.num .i64)] .no)) .no))))
theorem yn:FOk Tryz.prog 326 sd:=fk [(53,iW)] ⟨j9,trivial⟩ Tryz.func326 .no
theorem Ii:FOk Tryz.prog 293 AA:=fk [(53,iW),(326,sd)] ⟨j9,yn,trivial⟩ Tryz.func293 (.two .no (.two (.two .no (.two .no (.two .no (.two .no (.two .no (.join [.slot 37 .boo] .no .no)))))) .no))
theorem mL:FOk Tryz.prog 294 bO:=Ge (f:=bO) (ky (f:=⟨bO.ps,bO.rs,bO.m,none⟩) (enters_of Tryz.func294 (by kernel_rfl) rfl) rfl (fun d=>rfl)) (JQ (V:=⟨tt,[],[(5,.raw)],8,[]⟩) Od trivial mixed Tryz.func294 rfl rfl (enters_of Tryz.func294 (by kernel_rfl) rfl) (bj rfl) .no (fun E bn xs=>by cases bn <;> kernel_rfl))
theorem xl:FOk Tryz.prog 258 tl:=fk [(293,AA),(294,bO)] ⟨Ii,mL,trivial⟩ Tryz.func258 (.two .no (.two .no (.two (.two .no (.loop [.slot 3 (.own 274 YZ),.slot 13 (.num .i64)] (.two .no (.two .no (.two (.two .no (.two .no (.two (.two .no (.at [.slot 6 (.num .i64)] (.two (.two .no (.at [.slot 19 .boo] .no)) (.two .no (.two (.two .no (.at [.slot 22 .boo] .no)) .no))))) .no))) .no))))) .no))) (tr:=[(302,274,xR)])
theorem Lj:FOk Tryz.prog 323 CK:=fk [(258,tl)] ⟨xl,trivial⟩ Tryz.func323 .no (tr:=[(302,274,xR)])
theorem AX:FOk Tryz.prog 288 se:=fk [(323,CK)] ⟨Lj,trivial⟩ Tryz.func288 .no
theorem uf: ∀n,FOk Tryz.prog 289 (mc n)
 | 0=>ky (f:=mc 0) (enters_of Tryz.func289 (by kernel_rfl) rfl) rfl (fun d=>rfl)
 | n+1=>by
  have ih:=uf n
  exact fk [(289,(mc n))] ⟨ih,trivial⟩ Tryz.func289 (.two .no (.two .no (.two (.two .no (.loop [.slot 3 (.num .i64),.slot 11 (.num .i64)] (.two .no (.two .no (.two (.at [.slot 3 (.num .i64)] .no) .no))))) .no))) (tr:=[(302,274,xR)])
end R
namespace R
open Go.RowKit
open D
theorem RE:FOk Tryz.prog 344 JZ:=fk [] trivial Tryz.func344 .no (tr:=[(302,274,xR)])
theorem yo: ∀n,FOk Tryz.prog 324 (oO n)
 | 0=>ky (f:=oO 0) (enters_of Tryz.func324 (by kernel_rfl) rfl) rfl (fun d=>rfl)
 | n+1=>by
  have ih:=yo n
  exact fk [(324,(oO n)),(344,JZ)] ⟨ih,RE,trivial⟩ Tryz.func324 .no (tr:=[(302,274,xR)])
theorem sA: ∀n,FOk Tryz.prog 290 (kV n)
 | 0=>ky (f:=kV 0) (enters_of Tryz.func290 (by kernel_rfl) rfl) rfl (fun d=>rfl)
 | n+1=>by
  have ih:=sA n
  exact fk [(290,(kV n)),(324,(oO gB))] ⟨ih,(yo gB),trivial⟩ Tryz.func290 (.two .no (.two .no (.two .no (.two (.two .no (.loop [.slot 41 (.num .i64),.box 3 [(.num .i64),(.num .i64),(.num .i64),(.num .i64),(.own 274 (.tree 302 274 xR))]] .no)) .no)))) (an:=[(52,t274)]) (tr:=[(302,274,xR)])
theorem rf: ∀n,FOk Tryz.prog 325 (jL n)
 | 0=>ky (f:=jL 0) (enters_of Tryz.func325 (by kernel_rfl) rfl) rfl (fun d=>rfl)
 | n+1=>by
  have ih:=rf n
  exact fk [(325,(jL n))] ⟨ih,trivial⟩ Tryz.func325 (.two (.two .no (.loop [.slot 11 (.num .i64),.box 1 [(.own 161 xR)]] .no)) .no) (tr:=[(302,274,xR)])
theorem DW:FOk Tryz.prog 291 vR:=fk [(325,(jL gB))] ⟨(rf gB),trivial⟩ Tryz.func291 .no (tr:=[(302,274,xR)])
theorem BL:FOk Tryz.prog 256 tT:=fk [(258,tl),(288,se),(289,(mc gB)),(290,(kV gB)),(291,vR)] ⟨xl,AX,(uf gB),(sA gB),DW,trivial⟩ Tryz.func256 .no (tr:=[(302,274,xR)])
theorem tE:FOk Tryz.prog 292 mO:=fk [] trivial Tryz.func292 (.two .no (.loop [.slot 12 (.num .i64),.par 3 [3] 3 y3] (.two .no (.two .no (.two (.at [.par 3 [3] 3 y3] .no) .no)))))
theorem oc: ∀n,FOk Tryz.prog 257 (gz n)
 | 0=>ky (f:=gz 0) (enters_of Tryz.func257 (by kernel_rfl) rfl) rfl (fun d=>rfl)
 | n+1=>by
  have ih:=oc n
  exact fk [(257,(gz n)),(292,mO)] ⟨ih,tE,trivial⟩ Tryz.func257 (.two .no (.two (.two .no (.two .no (.two .no (.two .no (.two .no (.two .no (.two .no (.two .no (.two (.two .no (.two .no (.two .no (.two (.two .no (.at [.box 10 [(.num .i64),(.num .i64),.boo]] .no)) (.two (.two .no (.at [.box 10 [(.num .i64),(.num .i64),.boo]] .no)) .no))))) .no))))))))) .no)) (tr:=[(302,274,xR)])
theorem wg:FOk Tryz.prog 217 oP:=fk [(256,tT),(257,(gz gB)),(258,tl)] ⟨BL,(oc gB),xl,trivial⟩ Tryz.func217 (.two .no (.two .no (.two .no (.two .no (.two (.two .no (.loop [.slot 6 (.num .i64),.slot 22 (.num .i64)] (.two .no (.two .no (.two (.at [.slot 6 (.num .i64)] .no) .no))))) .no))))) (tr:=[(302,274,xR)])
theorem rh:FOk Tryz.prog 259 mJ:=fk [] trivial Tryz.func259 (.two .no (.two .no (.two .no (.two .no (.two (.two .no (.loop [.slot 10 (.own 3 y3),.slot 11 (.map ⟨3,3,.int,.int⟩),.slot 13 (.num .i64),.box 12 [(.num .i64),(.own 4 y4),(.own 91 y91)]] (.two .no (.two (.two .no (.two (.two .no (.loop [.slot 10 (.own 3 y3),.slot 11 (.map ⟨3,3,.int,.int⟩),.slot 14 (.own 3 y3),.slot 15 (.num .i64)] (.two .no (.join [.slot 10 (.own 3 y3),.slot 11 (.map ⟨3,3,.int,.int⟩),.slot 14 (.own 3 y3)] (.two .no (.two .no (.two .no (.join [.slot 10 (.own 3 y3),.slot 11 (.map ⟨3,3,.int,.int⟩),.slot 18 (.num .i64)] .no .no)))) .no)))) .no)) .no)))) .no)))))
theorem sB:FOk Tryz.prog 260 mw:=fk [] trivial Tryz.func260 .no
theorem uQ:FOk Tryz.prog 262 nP:=fk [] trivial Tryz.func262 (.two .no (.two .no (.join [.slot 7 (.num .i64)] .no (.two (.two .no (.loop [.slot 7 (.num .i64),.slot 21 (.num .i64)] (.two .no (.two .no (.join [.slot 7 (.num .i64)] .no .no))))) (.two .no (.two (.two .no (.loop [.slot 10 (.num .i64),.slot 39 (.num .i64)] (.two .no (.two .no (.join [.slot 10 (.num .i64)] .no .no))))) .no))))))
theorem xm:FOk Tryz.prog 261 pE:=fk [(262,nP)] ⟨uQ,trivial⟩ Tryz.func261 .no
theorem AY:FOk Tryz.prog 218 sf:=fk [(259,mJ),(260,mw),(261,pE)] ⟨rh,sB,xm,trivial⟩ Tryz.func218 .no
theorem nl:FOk Tryz.prog 345 bR:=Ge (f:=bR) (ky (f:=⟨bR.ps,bR.rs,bR.m,none⟩) (enters_of Tryz.func345 (by kernel_rfl) rfl) rfl (fun d=>rfl)) (JQ (V:=⟨tt,[],[(5,.raw)],8,[]⟩) Od trivial mixed Tryz.func345 rfl rfl (enters_of Tryz.func345 (by kernel_rfl) rfl) (bj rfl) .no (fun E bn xs=>by cases bn <;> kernel_rfl))
theorem wh:FOk Tryz.prog 327 oQ:=fk [(345,bR)] ⟨nl,trivial⟩ Tryz.func327 (.two .no (.two .no (.two (.two .no (.loop [.slot 4 .boo,.row 3 4 y4] (.two .no (.two .no (.two .no (.loop [.slot 4 .boo,.slot 16 (.num .i64),.row 3 4 y4] (.two .no (.two .no (.two (.two .no (.two .no (.loop [.slot 4 .boo,.slot 23 (.num .i64),.row 3 4 y4] (.two .no (.two .no (.two (.at [.slot 4 .boo,.row 3 4 y4] .no) .no)))))) .no))))))))) .no)))
theorem kh:FOk Tryz.prog 346 eJ:=fk [] trivial Tryz.func346 (.two .no (.two (.two .no (.loop [.slot 8 (.num .i64)] .no)) .no))
end R
namespace R
open Go.RowKit
open D
theorem rr:FOk Tryz.prog 347 k9:=fk [(107,c8)] ⟨eM,trivial⟩ Tryz.func347 .no
theorem tF:FOk Tryz.prog 328 mP:=fk [(346,eJ),(347,k9)] ⟨kh,rr,trivial⟩ Tryz.func328 (.two .no (.two .no (.two .no (.two (.two .no (.loop [.slot 6 (.own 91 y91),.slot 7 (.own 3 y3),.slot 18 (.num .i64)] (.two .no (.two .no (.join [.slot 6 (.own 91 y91),.slot 7 (.own 3 y3)] (.two .no (.two .no (.two .no (.two (.two .no (.loop [.slot 36 (.num .i64),.box 10 [(.own 3 y3)]] (.two .no (.two .no (.two (.two .no (.join [.slot 12 (.num .i64)] .no .no)) .no))))) (.two .no (.join [.slot 6 (.own 91 y91),.slot 13 (.num .i64),.gone 10] .no .no)))))) .no))))) .no))))
theorem sC:FOk Tryz.prog 295 my:=fk [(327,oQ),(328,mP)] ⟨wh,tF,trivial⟩ Tryz.func295 (.two .no (.two .no (.two (.two .no (.loop [.slot 3 (.own 3 y3),.slot 13 (.num .i64)] (.two .no (.two .no (.join [.slot 3 (.own 3 y3)] .no .no))))) (.two .no (.loop [.slot 3 (.own 3 y3),.slot 6 (.num .i64)] .no)))))
theorem uR:FOk Tryz.prog 354 nQ:=fk [] trivial Tryz.func354 .no
theorem uS:FOk Tryz.prog 355 nR:=fk [] trivial Tryz.func355 .no
theorem xn:FOk Tryz.prog 348 pF:=fk [(354,nQ),(355,nR)] ⟨uR,uS,trivial⟩ Tryz.func348 .no
theorem od:FOk Tryz.prog 329 iB:=fk [(348,pF)] ⟨xn,trivial⟩ Tryz.func329 (.two .no (.two .no (.two .no (.two .no (.two .no (.two .no (.two (.loop [.slot 8 (.num .i64),.row 7 3 (.int .i64)] .no) .no))))))) (an:=[(44,.bool)])
theorem Ij:FOk Tryz.prog 296 AB:=fk [(329,iB)] ⟨od,trivial⟩ Tryz.func296 .no
theorem ox:FOk Tryz.prog 298 jb:=fk [] trivial Tryz.func298 (.two .no (.two (.two .no (.loop [.slot 8 (.num .i64)] .no)) .no))
theorem pN:FOk Tryz.prog 297 j6:=fk [(298,jb)] ⟨ox,trivial⟩ Tryz.func297 .no
theorem pO:FOk Tryz.prog 299 j7:=fk [] trivial Tryz.func299 .no
theorem wi:FOk Tryz.prog 301 oR:=fk [(326,sd)] ⟨yn,trivial⟩ Tryz.func301 .no
theorem pP:FOk Tryz.prog 300 j8:=fk [(301,oR)] ⟨wi,trivial⟩ Tryz.func300 .no
theorem ru:FOk Tryz.prog 263 ld:=fk [(259,mJ),(295,my),(296,AB),(297,j6),(299,j7),(300,j8)] ⟨rh,sC,Ij,pN,pO,pP,trivial⟩ Tryz.func263 .no
theorem Oe:FOk Tryz.prog 219 Gk:=fk [(263,ld)] ⟨ru,trivial⟩ Tryz.func219 .no
theorem AZ:FOk Tryz.prog 162 sg:=fk [(217,oP),(218,sf),(219,Gk)] ⟨wg,AY,Oe,trivial⟩ Tryz.func162 .no
theorem gH:FOk Tryz.prog 163 c7:=fk [] trivial Tryz.func163 (.two .no (.two (.two .no (.loop [.slot 8 (.num .i64)] .no)) .no))
end R
namespace R
open Go.RowKit
open D
theorem np:FOk Tryz.prog 220 gT:=fk [] trivial Tryz.func220 (.two .no (.two .no (.two (.two .no (.loop [.slot 13 (.num .i64)] .no)) .no)))
theorem fb:FOk Tryz.prog 221 cq:=fk [] trivial Tryz.func221 (.two .no (.two .no (.two (.two .no (.loop [.slot 17 (.num .i64)] .no)) .no)))
theorem uT:FOk Tryz.prog 222 nS:=fk [(107,c8)] ⟨eM,trivial⟩ Tryz.func222 .no
theorem pQ:FOk Tryz.prog 165 lE:=fk [(220,gT),(221,cq),(222,nS)] ⟨np,fb,uT,trivial⟩ Tryz.func165 .no
theorem Gw:FOk Tryz.prog 164 yc:=fk [(165,lE)] ⟨pQ,trivial⟩ Tryz.func164 .no
theorem yp:FOk Tryz.prog 166 si:=fk [] trivial Tryz.func166 .no
theorem CT:FOk Tryz.prog 108 xd:=fk [(53,iW),(162,sg),(163,c7),(164,yc),(166,si)] ⟨j9,AZ,gH,Gw,yp,trivial⟩ Tryz.func108 (.two .no (.two .no (.two (.two .no (.loop [.slot 13 (.num .i64),.box 4 [(.own 189 lB),(.own 137 w8)]] (.two .no (.two .no (.two (.two .no (.two .no (.two .no (.two .no (.join [.slot 9 (.num .i64),.box 4 [(.own 189 lB),(.own 137 w8)],.gone 7] .no .no))))) .no))))) .no)))
theorem cQ:FOk Tryz.prog 167 bL:=fk [] trivial Tryz.func167 (.two .no (.two .no (.two (.two .no (.loop [.slot 17 (.num .i64)] .no)) .no)))
theorem cC:FOk Tryz.prog 168 bE:=fk [] trivial Tryz.func168 (.two .no (.two .no (.two (.two .no (.loop [.slot 17 (.num .i64)] .no)) .no)))
theorem mA:FOk Tryz.prog 264 fX:=fk [] trivial Tryz.func264 (.two .no (.two .no (.two (.two .no (.loop [.slot 13 (.num .i64)] .no)) .no)))
theorem BM:FOk Tryz.prog 223 tU:=fk [(264,fX)] ⟨mA,trivial⟩ Tryz.func223 .no
theorem yJ:FOk Tryz.prog 169 qV:=fk [(223,tU)] ⟨BM,trivial⟩ Tryz.func169 .no
theorem uU:FOk Tryz.prog 109 nT:=fk [(165,lE),(167,bL),(168,bE),(169,qV)] ⟨pQ,cQ,cC,yJ,trivial⟩ Tryz.func109 .no
theorem oe:FOk Tryz.prog 51 jU:=fk [(108,xd),(109,nT)] ⟨CT,uU,trivial⟩ Tryz.func51 .no
theorem xo:FOk Tryz.prog 52 pG:=fk [(50,kU)] ⟨oV,trivial⟩ Tryz.func52 .no
theorem fR:FOk Tryz.prog 110 cO:=fk [] trivial Tryz.func110 (.two .no (.two (.two .no (.loop [.slot 8 (.num .i64)] .no)) .no))
theorem A0:FOk Tryz.prog 111 sj:=fk [] trivial Tryz.func111 .no
end R
namespace R
open Go.RowKit
open D
theorem wj:FOk Tryz.prog 54 qz:=fk [(110,cO),(111,sj)] ⟨fR,A0,trivial⟩ Tryz.func54 .no
theorem sD:FOk Tryz.prog 112 mz:=DO DQ (enters_of Tryz.func112 (by kernel_rfl) rfl)
theorem yK:FOk Tryz.prog 195 qW:=RB JW (enters_of Tryz.func195 (by kernel_rfl) rfl)
theorem wk:FOk Tryz.prog 131 qA:=fk [(195,qW)] ⟨yK,trivial⟩ Tryz.func131 .no
theorem ug:FOk Tryz.prog 193 o9:=fk [(131,qA),(161,xc)] ⟨wk,CS,trivial⟩ Tryz.func193 .no
theorem yL:FOk Tryz.prog 194 qX:=RC RD Oc 9 (enters_of Tryz.func194 (by kernel_rfl) rfl)
theorem sE:FOk Tryz.prog 130 nU:=fk [(193,o9),(194,qX)] ⟨ug,yL,trivial⟩ Tryz.func130 (.two .no (.two .no (.two .no (.two (.two .no (.loop [.slot 3 (.own 9 y9),.slot 15 (.num .i64)] (.two .no (.two .no (.two (.atX [.slot 3 (.own 9 y9)] .no) .no))))) .no))))
theorem Gx:FOk Tryz.prog 132 yd:=fk [] trivial Tryz.func132 (.two .no (.two .no (.two (.two .no (.loop [.slot 3 (.num .i64),.slot 4 (.num .i64)] .no)) .no)))
theorem yM:FOk Tryz.prog 73 qY:=fk [(53,iW),(130,nU),(131,qA),(132,yd)] ⟨j9,sE,wk,Gx,trivial⟩ Tryz.func73 .no
theorem pR:FOk Tryz.prog 171 lF:=N9 Ob (by kernel_rfl) (by kernel_rfl) (enters_of Tryz.func171 (by kernel_rfl) rfl)
theorem A1 (n a b:Int) (w:World):Calls Tryz.prog 53 #[.int .i64 n,.int .i64 a,.int .i64 b] w fun e w'=>e= .returned (.bool (decide (a<=n/\n<=b)))/\w'=w:=by
 by_cases h:a<=n
 ·go_enter Tryz.func53,Tryz.ntmps53
  go_wp2
  go_ret
  simp[h]
 ·go_enter Tryz.func53,Tryz.ntmps53
  go_wp2
  go_ret
  simp
  try (intro k;omega)
theorem Ik (s:ByteArray) (r:Int×Bool) (w:World) (hr:rO s=some r) (hL:LayW Tryz.prog w):Calls Tryz.prog 172 #[.string s] w fun e w'=>e= .returned (.tuple #[.int .i64 r.1,.bool r.2])/\Below w.heap.size w w':=by
 unfold rO at hr
 by_cases h10:10<s.size
 ·rw[if_pos h10] at hr
  obtain rfl:=ae hr
  go_enter Tryz.func172,Tryz.ntmps172
  go_wp2
  go_ret2
  exact ⟨rfl,Below.refl _ _⟩
 ·rw[if_neg h10] at hr
  have h18:s.size<=18:=by omega
  cases ha:Lib.atoi s.data.toList with
  | none =>
   rw[ha] at hr
   obtain rfl:=ae hr
   obtain ⟨tp,p,hv⟩:=hL.syn
   have hcon:=Any.strconv_Atoi_err_var JX s h18 ha tp p w hv
   go_enter Tryz.func172,Tryz.ntmps172
   go_wp2_with (go_at_call 226;refine hcon.mono ?_;rintro e w' ⟨N,rfl,hN,hh,hb⟩)
   go_ret2
   exact ⟨rfl,hb⟩
  | some n =>
   rw[ha] at hr
   have hB:=Lib.atoi_bound ha (by simpa using h18)
   have hA:=Any.strconv_Atoi { JX with } s n h18 ha w
   have hI:=fun t=>Any.strconv_Itoa JW n (by omega) (by omega) (Lib.bytesWorld w 5 t) (Lib.bytesWorld_var w 5 t hL.tab)
   have hz: ∀t k os,Below w.heap.size w (Go.Sort.grow ((Lib.bytesWorld w 5 t).drewN k) os):=fun t k os=>by
    have h1:=Lib.bytesWorld_below w 5 t
    exact ⟨h1.os,h1.tape,h1.output,by have:=h1.size;simp only[Go.Sort.grow,Array.size_append];exact Nat.le_trans this (Nat.le_add_right _ _),fun b hb=>(Go.Sort.heap_grow_old ((Lib.bytesWorld w 5 t).drewN k) os (aK hb h1.size:b<((Lib.bytesWorld w 5 t).drewN k).heap.size)).trans (h1.block b hb)⟩
   replace hr:(if (⟨(Lib.itoa n).toArray⟩:ByteArray)=s/\ -999999999<=n/\n<=999999999 then some (n,true) else some (0,false))=some r:=hr
   generalize (⟨(Lib.itoa n).toArray⟩:ByteArray)=q at hr hI
   by_cases e1:q=s
   ·subst e1
    by_cases e2: -999999999<=n/\n<=999999999
    ·rw[if_pos ⟨rfl,e2.1,e2.2⟩] at hr
     obtain rfl:=ae hr
     go_enter Tryz.func172,Tryz.ntmps172
     go_wp2_with (first | (go_at_call 226;refine hA.mono ?_;rintro e w' ⟨rfl,t,rfl⟩) | (go_at_call 195;refine (hI _).mono ?_;rintro e w' ⟨rfl,k,os,rfl⟩) | (go_at_call 53;refine (A1 _ _ _ _).mono ?_;rintro e w' ⟨rfl,rfl⟩))
     go_ret2
     exact ⟨rfl,hz _ _ _⟩
    ·rw[if_neg fun k=>e2 k.2] at hr
     obtain rfl:=ae hr
     go_enter Tryz.func172,Tryz.ntmps172
     go_wp2_with (first | (go_at_call 226;refine hA.mono ?_;rintro e w' ⟨rfl,t,rfl⟩) | (go_at_call 195;refine (hI _).mono ?_;rintro e w' ⟨rfl,k,os,rfl⟩) | (go_at_call 53;refine (A1 _ _ _ _).mono ?_;rintro e w' ⟨rfl,rfl⟩))
     go_ret2
     exact ⟨rfl,hz _ _ _⟩
   ·rw[if_neg fun k=>e1 k.1] at hr
    obtain rfl:=ae hr
    have e2: ¬q.toList=s.toList:=fun k=>e1 (Go.WideShapes.bytes_inj (by rw[<-ByteArray.toList_eq,<-ByteArray.toList_eq];exact k))
    go_enter Tryz.func172,Tryz.ntmps172
    go_wp2_with (first | (go_at_call 226;refine hA.mono ?_;rintro e w' ⟨rfl,t,rfl⟩) | (go_at_call 195;refine (hI _).mono ?_;rintro e w' ⟨rfl,k,os,rfl⟩) | (go_at_call 53;refine (A1 _ _ _ _).mono ?_;rintro e w' ⟨rfl,rfl⟩))
    go_ret2
    exact ⟨rfl,hz _ _ _⟩
theorem yq:FOk Tryz.prog 172 sk:=Oa (enters_of Tryz.func172 (by kernel_rfl) rfl) Ik
theorem A2:FOk Tryz.prog 270 sn:=VJ VL (by kernel_rfl) (enters_of Tryz.func270 (by kernel_rfl) rfl)
theorem DX:FOk Tryz.prog 227 vS:=fk [(172,sk),(193,o9),(270,sn)] ⟨yq,ug,A2,trivial⟩ Tryz.func227 .no
theorem BN:FOk Tryz.prog 173 tV:=fk [(130,nU),(171,lF),(227,vS)] ⟨sE,pR,DX,trivial⟩ Tryz.func173 (.two .no (.two .no (.two .no (.two (.two .no (.loop [.slot 16 (.num .i64),.box 4 [(.own 170 (.prod y4 G5))]] .no)) .no))))
theorem yN:FOk Tryz.prog 113 qZ:=fk [(73,qY),(171,lF),(172,sk),(173,tV)] ⟨yM,pR,yq,BN,trivial⟩ Tryz.func113 .no
theorem Il:FOk Tryz.prog 55 AC:=JV (ps:=[.rd y9]) (A:=y91) (E:=73) (t:=y73) (B:=y3) (m:=m_i_ScanLog) (fk [(112,mz),(113,qZ)] ⟨sD,yN,trivial⟩ Tryz.func55 (.two .no (.two .no (.two .no (.two .no (.two (.loop [.slot 5 (.own 3 y3),.slot 6 (.own 73 y73),.slot 7 (.num .i64)] .no) .no))))))
theorem xp:FOk Tryz.prog 14 pH:=fk [(50,kU),(51,jU),(52,pG),(53,iW),(54,qz),(55,AC)] ⟨oV,oe,xo,j9,wj,Il,trivial⟩ Tryz.func14 (.two .no (.two .no (.two .no (.two (.two .no (.loop [.slot 37 (.num .i64)] .no)) .no))))
end R
namespace R
open Go.RowKit
open D
theorem CU:FOk Tryz.prog 228 xe:=fk [] trivial Tryz.func228 (.two .no (.two .no (.two (.two .no (.loop [.slot 5 (.num .i64)] .no)) .no)))
theorem Lk:FOk Tryz.prog 205 CL:=fk [] trivial Tryz.func205 .no
theorem Im:FOk Tryz.prog 229 AD:=fk [(205,CL)] ⟨Lk,trivial⟩ Tryz.func229 (.two .no (.two .no (.two (.two .no (.loop [.slot 5 (.num .i64)] .no)) .no)))
theorem Io:FOk Tryz.prog 174 AE:=fk [(228,xe),(229,AD)] ⟨CU,Im,trivial⟩ Tryz.func174 .no
theorem Gy:FOk Tryz.prog 114 ye:=fk [(174,AE)] ⟨Io,trivial⟩ Tryz.func114 (.two .no (.two .no (.two (.two .no (.loop [.slot 5 (.num .i64)] .no)) .no)))
theorem DY:FOk Tryz.prog 56 vT:=fk [(114,ye)] ⟨Gy,trivial⟩ Tryz.func56 .no
theorem Ip:FOk Tryz.prog 230 AF:=fk [] trivial Tryz.func230 (.two .no (.two .no (.two (.two .no (.loop [.slot 5 (.num .i64)] .no)) .no)))
theorem Iq:FOk Tryz.prog 231 AG:=fk [(228,xe)] ⟨CU,trivial⟩ Tryz.func231 (.two .no (.two .no (.two (.two .no (.loop [.slot 5 (.num .i64)] .no)) .no)))
theorem A3:FOk Tryz.prog 175 so:=fk [(230,AF),(231,AG)] ⟨Ip,Iq,trivial⟩ Tryz.func175 .no
theorem yO:FOk Tryz.prog 115 q7:=fk [(175,so)] ⟨A3,trivial⟩ Tryz.func115 (.two .no (.two .no (.two (.two .no (.loop [.slot 5 (.num .i64)] .no)) .no)))
theorem Ir:FOk Tryz.prog 141 AH:=fk [] trivial Tryz.func141 .no
theorem Gz:FOk Tryz.prog 86 yf:=fk [(141,AH)] ⟨Ir,trivial⟩ Tryz.func86 (.two .no (.two .no (.two (.two .no (.loop [.slot 5 (.num .i64)] .no)) .no)))
theorem Ll:FOk Tryz.prog 32 CM:=fk [(86,yf)] ⟨Gz,trivial⟩ Tryz.func32 .no
theorem yP:FOk Tryz.prog 176 q8:=fk [(32,CM)] ⟨Ll,trivial⟩ Tryz.func176 .no
theorem xq:FOk Tryz.prog 116 pI:=fk [(176,q8)] ⟨yP,trivial⟩ Tryz.func116 (.two .no (.two .no (.two (.two .no (.loop [.slot 5 (.num .i64)] .no)) .no)))
theorem BO:FOk Tryz.prog 57 tW:=fk [(115,q7),(116,pI)] ⟨yO,xq,trivial⟩ Tryz.func57 .no
theorem yQ:FOk Tryz.prog 117 q9:=fk [] trivial Tryz.func117 .no
end R
namespace R
open Go.RowKit
open D
theorem xr:FOk Tryz.prog 58 pJ:=fk [(117,q9)] ⟨yQ,trivial⟩ Tryz.func58 (.two .no (.two .no (.two (.two .no (.loop [.slot 5 (.num .i64)] .no)) .no)))
theorem GB:FOk Tryz.prog 15 yg:=fk [(56,vT),(57,tW),(58,pJ)] ⟨DY,BO,xr,trivial⟩ Tryz.func15 .no
theorem Lm:FOk Tryz.prog 180 CN:=fk [] trivial Tryz.func180 .no
theorem Ln:FOk Tryz.prog 119 CO:=fk [(180,CN)] ⟨Lm,trivial⟩ Tryz.func119 (.two .no (.two .no (.two (.two .no (.loop [.slot 4 (.num .i64),.box 3 [(.num .i64),(.own 126 EO)]] .no)) .no)))
theorem Is:FOk Tryz.prog 181 AI:=fk [] trivial Tryz.func181 (.two .no (.two .no (.two (.two .no (.loop [.slot 4 (.num .i64),.box 3 [(.num .i64),(.own 4 y4),(.own 91 y91)]] .no)) .no)))
theorem A4:FOk Tryz.prog 120 uN:=fk [(155,tk),(181,AI)] ⟨xh,Is,trivial⟩ Tryz.func120 (.two .no (.two .no (.two (.two .no (.loop [.slot 4 (.num .i64),.box 3 [(.own 189 lB),(.own 137 w8)]] .no)) (.two (.two .no (.loop [.slot 5 (.num .i64),.box 3 [(.own 189 lB),(.own 137 w8)]] .no)) .no))))
theorem Iu:FOk Tryz.prog 61 AJ:=fk [(119,CO),(120,uN)] ⟨Ln,A4,trivial⟩ Tryz.func61 .no
theorem yr:FOk Tryz.prog 233 sp:=fk [] trivial Tryz.func233 .no
theorem DZ:FOk Tryz.prog 191 vU:=fk [(233,sp)] ⟨yr,trivial⟩ Tryz.func191 .no
theorem A5:FOk Tryz.prog 127 sq:=fk [(191,vU)] ⟨DZ,trivial⟩ Tryz.func127 (.two .no (.two .no (.two (.two .no (.loop [.slot 12 (.num .i64),.box 3 [(.num .i64),(.own 126 EO)]] .no)) .no)))
theorem xt:FOk Tryz.prog 192 pK:=fk [(233,sp)] ⟨yr,trivial⟩ Tryz.func192 (.two .no (.two .no (.two (.two .no (.loop [.slot 16 (.num .i64),.box 3 [(.num .i64),(.own 4 y4),(.own 91 y91)]] .no)) .no)))
end R
namespace R
open Go.RowKit
open D
theorem ri:FOk Tryz.prog 128 mK:=fk [(166,si),(192,pK)] ⟨yp,xt,trivial⟩ Tryz.func128 (.two .no (.two .no (.two (.two .no (.loop [.slot 12 (.num .i64),.box 3 [(.own 189 lB),(.own 137 w8)]] .no)) (.two (.two .no (.loop [.slot 27 (.num .i64),.box 3 [(.own 189 lB),(.own 137 w8)]] .no)) .no))))
theorem BP:FOk Tryz.prog 71 tX:=fk [(127,sq),(128,mK)] ⟨A5,ri,trivial⟩ Tryz.func71 .no
theorem yt:FOk Tryz.prog 182 su:=fk [] trivial Tryz.func182 (.two .no (.two (.two .no (.loop [.par 0 [] 3 y3,.slot 1 (.num .i64),.slot 5 (.num .i64)] .no)) .no))
theorem D0:FOk Tryz.prog 183 vV:=fk [] trivial Tryz.func183 (.two .no (.two (.two .no (.loop [.par 0 [] 168 G5,.slot 1 (.num .i64),.slot 5 (.num .i64)] .no)) .no))
theorem BQ:FOk Tryz.prog 121 tY:=fk [(182,su),(183,vV)] ⟨yt,D0,trivial⟩ Tryz.func121 (.two .no (.two (.two .no (.loop [.par 0 [] 126 EO,.slot 1 (.num .i64),.slot 5 (.num .i64)] .no)) .no))
theorem A6:FOk Tryz.prog 64 sv:=fk [(121,tY)] ⟨BQ,trivial⟩ Tryz.func64 .no
theorem D1:FOk Tryz.prog 184 vW:=fk [] trivial Tryz.func184 (.two .no (.two (.two .no (.loop [.par 0 [] 4 y4,.slot 1 (.num .i64),.slot 5 (.num .i64)] .no)) .no))
theorem D2:FOk Tryz.prog 185 vX:=fk [(182,su)] ⟨yt,trivial⟩ Tryz.func185 (.two .no (.two (.two .no (.loop [.par 0 [] 91 y91,.slot 1 (.num .i64),.slot 5 (.num .i64)] .no)) .no))
theorem wm:FOk Tryz.prog 122 oS:=fk [(184,vW),(185,vX)] ⟨D1,D2,trivial⟩ Tryz.func122 (.two .no (.two (.two .no (.loop [.par 0 [] 189 lB,.slot 1 (.num .i64),.slot 5 (.num .i64)] .no)) .no))
theorem BR:FOk Tryz.prog 87 tZ:=fk [] trivial Tryz.func87 (.two .no (.two (.two .no (.loop [.par 0 [] 161 xR,.slot 1 (.num .i64),.slot 5 (.num .i64)] .no)) .no))
theorem uV:FOk Tryz.prog 123 nV:=fk [(87,tZ)] ⟨BR,trivial⟩ Tryz.func123 (.two .no (.two (.two .no (.loop [.par 0 [] 137 w8,.slot 1 (.num .i64),.slot 5 (.num .i64)] .no)) .no))
theorem yR:FOk Tryz.prog 65 ra:=fk [(122,oS),(123,nV)] ⟨wm,uV,trivial⟩ Tryz.func65 .no
theorem uW:FOk Tryz.prog 66 nW:=fk [] trivial Tryz.func66 (.two .no (.two (.two .no (.loop [.par 0 [] 88 y88,.slot 1 (.num .i64),.slot 5 (.num .i64)] .no)) .no))
end R
namespace R
open Go.RowKit
open D
theorem BS:FOk Tryz.prog 20 ua:=fk [(64,sv),(65,ra),(66,nW)] ⟨A6,yR,uW,trivial⟩ Tryz.func20 .no
theorem yu:FOk Tryz.prog 186 sw:=fk [] trivial Tryz.func186 (.two .no (.two (.two .no (.loop [.slot 1 (.num .i64),.slot 5 (.num .i64)] .no)) .no))
theorem D3:FOk Tryz.prog 187 vY:=fk [] trivial Tryz.func187 (.two .no (.two (.two .no (.loop [.slot 1 (.num .i64),.slot 5 (.num .i64)] .no)) .no))
theorem BT:FOk Tryz.prog 124 ub:=fk [(186,sw),(187,vY)] ⟨yu,D3,trivial⟩ Tryz.func124 (.two .no (.two (.two .no (.loop [.slot 1 (.num .i64),.slot 5 (.num .i64)] .no)) .no))
theorem A7:FOk Tryz.prog 67 sx:=fk [(124,ub)] ⟨BT,trivial⟩ Tryz.func67 .no
theorem D4:FOk Tryz.prog 188 vZ:=fk [] trivial Tryz.func188 (.two .no (.two (.two .no (.loop [.slot 1 (.num .i64),.slot 5 (.num .i64)] .no)) .no))
theorem D5:FOk Tryz.prog 189 v7:=fk [(186,sw)] ⟨yu,trivial⟩ Tryz.func189 (.two .no (.two (.two .no (.loop [.slot 1 (.num .i64),.slot 5 (.num .i64)] .no)) .no))
theorem wo:FOk Tryz.prog 125 oT:=fk [(188,vZ),(189,v7)] ⟨D4,D5,trivial⟩ Tryz.func125 (.two .no (.two (.two .no (.loop [.slot 1 (.num .i64),.slot 5 (.num .i64)] .no)) .no))
theorem BU:FOk Tryz.prog 190 uc:=fk [] trivial Tryz.func190 (.two .no (.two (.two .no (.loop [.slot 1 (.num .i64),.slot 5 (.num .i64)] .no)) .no))
theorem uX:FOk Tryz.prog 126 nX:=fk [(190,uc)] ⟨BU,trivial⟩ Tryz.func126 (.two .no (.two (.two .no (.loop [.slot 1 (.num .i64),.slot 5 (.num .i64)] .no)) .no))
theorem yS:FOk Tryz.prog 68 rb:=fk [(125,oT),(126,nX)] ⟨wo,uX,trivial⟩ Tryz.func68 .no
theorem uY:FOk Tryz.prog 69 nY:=fk [] trivial Tryz.func69 (.two .no (.two (.two .no (.loop [.slot 1 (.num .i64),.slot 5 (.num .i64)] .no)) .no))
theorem BV:FOk Tryz.prog 21 ud:=fk [(67,sx),(68,rb),(69,nY)] ⟨A7,yS,uY,trivial⟩ Tryz.func21 .no
end R
namespace R
open Go.RowKit
open D
theorem uZ:FOk Tryz.prog 74 nZ:=fk [(44,jT),(79,qy),(100,rY),(120,uN)] ⟨n9,we,yk,A4,trivial⟩ Tryz.func74 .no (an:=[(22,(.fro w8))])
theorem tG:FOk Tryz.prog 24 mQ:=fk [(12,pB),(61,AJ),(74,nZ)] ⟨xi,Iu,uZ,trivial⟩ Tryz.func24 (.two .no (.two .no (.two .no (.two .no (.two .no (.two .no (.two (.two .no (.loop [.slot 9 (.num .i64),.box 6 [(.num .i64),(.own 126 EO),(.own 189 lB),(.own 137 w8),(.own 88 y88),.str]] (.two .no (.join [.box 6 [(.num .i64),(.own 126 EO),(.own 189 lB),(.own 137 w8),(.own 88 y88),.str]] .no .no)))) .no)))))))
theorem gN:FOk Tryz.prog 133 dh:=VH (n:=2) (z:=(⟨.int .i64 0,rfl⟩,⟨.slice none 0 0,rfl⟩,⟨.int .i64 0,rfl⟩)) rfl rfl (fok (V:=⟨tt,[],[(13,.raw),(22,.raw),(25,.raw),(31,.raw)],33,[]⟩) Od trivial mixed Tryz.func133 rfl rfl (enters_of Tryz.func133 (by kernel_rfl) rfl) rfl (bj rfl) rfl .no (fun d=>by kernel_rfl))
theorem gW:FOk Tryz.prog 134 dk:=Rx (n:=2) rfl (N7 (t:=gV 2) (V:=⟨tt,[],[(5,(.prod .raw (.prod .raw .raw)))],8,[]⟩) Od trivial mixed Tryz.func134 rfl rfl (enters_of Tryz.func134 (by kernel_rfl) rfl) (bj rfl) .no rfl (fun bn xs=>by cases bn <;> kernel_rfl))
theorem u7:FOk Tryz.prog 75 n7:=fk [(51,jU),(54,qz),(108,xd),(128,mK),(133,dh),(134,dk)] ⟨oe,wj,CT,ri,gN,gW,trivial⟩ Tryz.func75 .no
theorem fS:FOk Tryz.prog 135 cP:=fk [] trivial Tryz.func135 (.two .no (.two (.two .no (.loop [.slot 8 (.num .i64)] .no)) .no))
theorem fP:FOk Tryz.prog 76 cM:=fk [(135,cP)] ⟨fS,trivial⟩ Tryz.func76 (.two .no (.two .no (.two .no (.two (.two .no (.loop [.slot 5 (.num .i64),.slot 6 (.num .i64),.row 0 88 y88] (.two .no (.two (.at [.slot 5 (.num .i64),.row 0 88 y88] .no) .no)))) .no)))) (an:=[(38,.raw),(41,.raw)])
theorem rv:FOk Tryz.prog 77 lf:=fk [] trivial Tryz.func77 .no
theorem tH:FOk Tryz.prog 25 mR:=fk [(14,pH),(71,tX),(75,n7),(76,cM),(77,lf)] ⟨xp,BP,u7,fP,rv,trivial⟩ Tryz.func25 .no
theorem oh:FOk Tryz.prog 7 n8:=fk [(11,xU),(13,ya),(15,yg),(20,ua),(21,ud),(24,mQ),(25,mR)] ⟨Gp,Gv,GB,BS,BV,tG,tH,trivial⟩ Tryz.func7 .no
end R
namespace R
open Go.RowKit
open D
end R
namespace R
open Go.RowKit
open D
end R
namespace R
open Go.RowKit
open D
end R
namespace D
open Go.RowKit
end D
namespace D
open Go.RowKit
end D
namespace D
open Go.RowKit
end D
namespace D
open Go.RowKit
end D
namespace D
open Go.RowKit
theorem oi (x0:(Int×Yq5)×Yq8×(List Yq7)×ByteArray) (x1:Int) (r:Bool) (hm:cZ x0 x1=some r) {I:Hp} {w0:World} (v0_0:Value) (v0_1:Value) (v0_2:Value) (v0_3:Value) (r0_0:(ah 179 (aI (ah 3 bd) (ah 172 (aI bd (aI bd (aI bd bd)))))).rd I [v0_0] x0.1.2) (r0_1:(ah 184 (aI bd (aI (ah 4 ou) (ah 91 (ah 3 bd))))).rd I [v0_1] x0.2.1.1) (r0_2:(ah 187 (aI bd (aI (ah 163 (aI bd (aI bd (aI bd bd)))) bd))).rd I [v0_2] x0.2.1.2) (r0_3:(ah 133 (aI bd (aI bd bd))).rd I [v0_3] x0.2.2.1) (hL:Lay Tryz.prog I):Con Tryz.prog 7 #[.agg #[.int .i64 x0.1.1,v0_0,v0_1,v0_2,v0_3,.string x0.2.2.2],.int .i64 x1] I w0 [] (fun v=>v= .bool r) (fun _=>[]):=fun w C hs =>
 ((R.oh).con w0 I [.agg #[.int .i64 x0.1.1,v0_0,v0_1,v0_2,v0_3,.string x0.2.2.2],.int .i64 x1] (x0,(x1,())) r hL ⟨_,_,rfl,⟨[.int .i64 x0.1.1,v0_0,v0_1,v0_2,v0_3,.string x0.2.2.2],rfl,⟨_,_,rfl,⟨_,_,rfl,rfl,r0_0⟩,⟨_,_,rfl,⟨_,_,rfl,r0_1,r0_2⟩,⟨_,_,rfl,r0_3,rfl⟩⟩⟩⟩,⟨_,_,rfl,⟨[.int .i64 x1],rfl,rfl⟩,rfl⟩⟩ hm w C hs).mono fun e w' ⟨v,he,_,hst⟩=>by
  obtain ⟨h1,h2⟩:=R.vx (h1:=fun _=>rfl) (show St I w0 w' (Ch.own R.Ty.bool.rep [v] r::C) from hst)
  exact ⟨v,he,(List.cons.inj h1).1,h2⟩
end D
namespace D
open Go.RowKit
end D
namespace D
open Go.RowKit
end D
namespace D
open Go.RowKit
end D
namespace D
open Go.RowKit
def I64 (n:Int):Prop:= -9223372036854775808<=n/\n<=9223372036854775807
class Data (α:Type) where
 lim:α->Prop
 sm:α->Prop
instance:Data Int:=⟨I64,fun _=>True⟩
instance:Data Bool:=⟨fun _=>True,fun _=>True⟩
instance:Data ByteArray:=⟨fun s=>s.size<=9223372036854775807,fun s=>s.size<=1048576⟩
instance {α β:Type} [Data α] [Data β] :Data (α×β):=⟨fun x=>Data.lim x.1/\Data.lim x.2,fun x=>Data.sm x.1/\Data.sm x.2⟩
instance {α:Type} [Data α] :Data (List α):=⟨fun xs=>xs.length<=9223372036854775807/\ ∀x,x∈xs->Data.lim x,fun xs=>xs.length<=1048576/\ ∀x,x∈xs->Data.sm x⟩
structure Opens (P:Program) (t:TypeId) {α:Type} [Data α] (R:Rep α):Prop where
 out: ∀ {H:Type} (enc:TypeId×Value->H) (w:World) (fuel:Nat) (cs:List Value) (x:DataW H×List MemPlace),DataW.trod enc P w 0 (fun _=>true) true fuel t cs=some x-> ∃a:α,R.rd (hp w) cs a/\Data.lim a
theorem Of {P:Program} {t:TypeId} (h:P.underlying t=some (.int .i64)):Opens P t bd:=by
 constructor
 intro H enc w fuel cs x hx
 obtain ⟨n,rfl,-,hw⟩:=DataW.trod_int h hx
 refine ⟨n,rfl,show I64 n from ?_⟩
 simp[Lit.wf,IntKind.min,IntKind.max,IntKind.signed,IntKind.bits] at hw
 unfold I64
 omega
theorem Lo {P:Program} {t:TypeId} (h:P.underlying t=some .bool):Opens P t ou:=by
 constructor
 intro H enc w fuel cs x hx
 obtain ⟨n,rfl,-⟩:=DataW.trod_bool h hx
 exact ⟨n,rfl,trivial⟩
theorem GC {P:Program} {t:TypeId} (h:P.underlying t=some .string):Opens P t C4:=by
 constructor
 intro H enc w fuel cs x hx
 obtain ⟨n,rfl,-,hm⟩:=DataW.trod_string h hx
 exact ⟨n,rfl,show n.size<=_ by unfold maxLen at hm;omega⟩
theorem gA {P:Program} {t e:TypeId} {α:Type} [Data α] {R:Rep α} {E:TypeId} (h:P.underlying t=some (.slice e)) (hc:P.cellsOf e=R.size) (h0:0<R.size) (he:Opens P e R):Opens P t (ah E R):=by
 constructor
 intro H enc w fuel cs x hx
 rcases Go.Deep.open_slice h hx with ⟨rfl,-⟩ | ⟨a,len,cap,m,n,D,Pl,rfl,-,hl,hm,hmm,-,hel⟩
 ·exact ⟨[],⟨none,0,rfl,by simp,.inl rfl⟩,Nat.zero_le _,fun x hx=>by cases hx⟩
 have hlm:m=cap:=by simpa using hmm
 subst hlm
 rw[hc] at hel
 by_cases hz:len=0
 ·subst hz
  exact ⟨[],⟨some a,m,rfl,by simp,.inl rfl⟩,Nat.zero_le _,fun x hx=>by cases hx⟩
 ·have hone: ∀i,i<len-> ∃c:List Value,∃y:α,c.length=R.size/\(∀j,j<R.size->w.cell? ((a.add (i*R.size)).add j)=c[j]?)/\R.rd (hp w) c y/\Data.lim y:=by
   intro i hi
   obtain ⟨c,h1,h2⟩:=hel i (by omega)
   obtain ⟨-,h3,h4⟩:=World.cells?_some h1
   obtain ⟨y,hy⟩:=he.out enc w _ _ _ h2
   exact ⟨c,y,h3,h4,hy⟩
  obtain ⟨c0,y0,hc0,hr0,-⟩:=hone 0 (by omega)
  have h00:=hr0 0 h0
  have hsome: ∃v,c0[0]? =some v:=⟨_,List.getElem?_eq_getElem (by omega)⟩
  obtain ⟨v,hv⟩:=hsome
  rw[hv] at h00
  have ha:(a.add (0*R.size)).add 0=a:=by simp[Addr.add]
  rw[ha] at h00
  obtain ⟨b,off,spot⟩:=a
  have hb: ∃ccs T fr,w.heap[b]? =some (.cells ccs T fr)/\spot=none:=by
   simp only[World.cell?] at h00
   split at h00
   ·rename_i ccs T fr heq
    cases spot with
    | none=>exact ⟨ccs,T,fr,heq,rfl⟩
    | some s=>simp at h00
   ·simp at h00
  obtain ⟨ccs,T,fr,hh,rfl⟩:=hb
  have hadd: ∀i j,(Addr.add ⟨b,off,none⟩ i).add j=⟨b,off+i+j,none⟩:=by
   intro i j
   by_cases h1:i=0 <;> by_cases h2:j=0 <;> simp[Addr.add,h1,h2,Nat.add_assoc]
  haveI:Inhabited α:=⟨y0⟩
  obtain ⟨X,hX⟩:=Go.Deep.choose_lt (α:=α) (n:=len) (p:=fun i y=> ∃c:List Value,c.length=R.size/\(∀j,j<R.size->ccs.toList[off+i*R.size+j]? =c[j]?)/\R.rd (hp w) c y/\Data.lim y) (fun i hi=>by
   obtain ⟨c,y,h1,h2,h3⟩:=hone i hi
   refine ⟨y,c,h1,fun j hj=>?_,h3⟩
   have:=h2 j hj
   rw[hadd] at this
   simp only[World.cell?,hh] at this
   simpa using this)
  have hlen:((List.range len).map X).length=len:=by simp
  have hel2: ∀i y,((List.range len).map X)[i]? =some y->i<len/\y=X i:=fun i y hy=>by
   have hi:i<len:=by have:=(List.getElem?_eq_some_iff.1 hy).1;omega
   exact ⟨hi,by simpa [hi] using hy.symm⟩
  refine ⟨(List.range len).map X,⟨some ⟨b,off,none⟩,m,by rw[hlen],by rw[hlen];unfold maxLen at hm;unfold lim;omega,.inr ⟨b,off,ccs,T,fr,rfl,hh,fun i y hy=>?_⟩⟩,by rw[hlen];unfold maxLen at hm;omega,fun y hy=>?_⟩
  ·obtain ⟨hi,rfl⟩:=hel2 i y hy
   obtain ⟨c,e1,e2,e3,-⟩:=hX i hi
   exact ⟨c,e1,e2,e3⟩
  ·obtain ⟨i,hi,he⟩:=List.mem_iff_getElem?.1 hy |>.imp fun i hi=>hel2 i y hi
   obtain ⟨-,-,-,-,e4⟩:=hX i hi
   rw[he];exact e4
structure OpensFs (P:Program) (fs:List Field) (o:Nat) {α:Type} [Data α] (R:Rep α):Prop where
 out: ∀ {H:Type} (enc:TypeId×Value->H) (w:World) (fuel:Nat) (cs:List Value),cs.length=o+R.size->
  (∀f∈fs,∃x,DataW.trod enc P w 0 (fun _=>true) true fuel f.type ((cs.drop f.offset).take (P.cellsOf f.type))=some x)-> ∃a:α,R.rd (hp w) (cs.drop o) a/\Data.lim a
theorem gL {P:Program} {f:Field} {o:Nat} {α:Type} [Data α] {R:Rep α} (ho:f.offset=o) (hc:P.cellsOf f.type=R.size) (h:Opens P f.type R):OpensFs P [f] o R:=by
 constructor
 intro H enc w fuel cs hl hx
 obtain ⟨x,hx⟩:=hx f (by simp)
 rw[ho,hc,List.take_of_length_le (by rw[aS];omega)] at hx
 exact h.out enc w _ _ _ hx
theorem ct {P:Program} {f:Field} {fs:List Field} {o:Nat} {α β:Type} [Data α] [Data β] {R:Rep α} {S:Rep β} (ho:f.offset=o) (hc:P.cellsOf f.type=R.size) (h:Opens P f.type R) (hs:OpensFs P fs (o+R.size) S):OpensFs P (f::fs) o (aI R S):=by
 constructor
 intro H enc w fuel cs hl hx
 have hl':cs.length=o+(R.size+S.size):=hl
 obtain ⟨b,hb,hlb⟩:=hs.out enc w fuel cs (by omega) (fun g hg=>hx g (by simp[hg]))
 obtain ⟨x,hx⟩:=hx f (by simp)
 rw[ho,hc] at hx
 obtain ⟨a,ha,hla⟩:=h.out enc w _ _ _ hx
 refine ⟨(a,b),⟨(cs.drop o).take R.size,cs.drop (o+R.size),?_,ha,hb⟩,hla,hlb⟩
 rw[<-List.drop_drop,List.take_append_drop]
theorem dS {P:Program} {t:TypeId} {fs:Array Field} {α:Type} [Data α] {R:Rep α} (h:P.underlying t=some (.struct fs)) (hc:P.cellsOf t=R.size) (hf:OpensFs P fs.toList 0 R):Opens P t R:=by
 constructor
 intro H enc w fuel cs x hx
 obtain ⟨xs,n,-,-,hl,hn,hel⟩:=DataW.trod_struct h hx
 have:=hf.out enc w n cs (by omega) (fun f hm=>by
  obtain ⟨i,hi,rfl⟩:=List.getElem_of_mem hm
  have h1:fs[i]? =some fs.toList[i]:=by simp
  exact ⟨_,(hel i _ h1).trans (List.getElem?_eq_getElem (by simp at hi;omega))⟩)
 simpa using this
theorem St.below {w0 w:World} {cs:List Ch} (h:St (hp w0) w0 w cs):Below w0.heap.size w0 w:=by
 obtain ⟨⟨h1,h2,h3,h4⟩,h5,-⟩:=h
 refine ⟨h1,h2,h3,h4,fun b hb=>?_⟩
 have e:w0.heap[b]? =some w0.heap[b]:=Array.getElem?_eq_getElem hb
 rw[e];exact h5 b _ e
end D
namespace D
open Go.RowKit
theorem fm {n:Int} (h1: -9223372036854775808<=n) (h2:n<=9223372036854775807):IntKind.i64.wrap n=n:=by
 simp only[IntKind.wrap,IntKind.bits,IntKind.signed,Bool.true_and]
 split <;> rename_i h <;> simp at h <;> omega
theorem af {i:Nat} (h:i<9223372036854775807):IntKind.i64.wrap ((i:Int)+1)=((i+1:Nat):Int):=by
 rw[fm (by omega) (by omega)];rfl
theorem aD {α:Type} {xs:List α} {i:Nat} (h:i<xs.length):aQ xs (i:Int)=some (xs[i]):=by
 unfold aQ
 rw[if_pos (Int.natCast_nonneg _)]
 simp[h]
theorem bM {i n:Nat} (h:i<n):decide ((i:Int)<(n:Int))=true:=by simp[h]
theorem bu {n:Nat} :decide ((n:Int)<(n:Int))=false:=by simp
theorem dD (k:Nat) (h:k<=9223372036854775807):k<aW:=by unfold aW;omega
theorem wq {α:Type} {b n:Nat} {z:α} (h:n*b<=140737488355328):mkI b (n:Int) z=some (List.replicate n z):=by
 unfold mkI
 rw[if_pos ⟨Int.natCast_nonneg _,by simpa using h⟩];simp
theorem GD {R S:Type} {f:S->Option (Out R S)} (inv:Nat->S) (N:Nat) (h: ∀i,i<N->f (inv i)=some (.nxt (inv (i+1)))): ∀(m i k:Nat),i+m=N->ax f (k+m) (inv i)=ax f k (inv N)
 | 0,i,k,e=>by rw[show i=N by omega];rfl
 | m+1,i,k,e=>by
  rw[<-Nat.add_assoc,ax,h i (by omega)]
  exact GD inv N h m (i+1) k (by omega)
theorem GE {R S:Type} {f:S->Option (Out R S)} (inv:Nat->S) (N:Nat) {s:S} (h: ∀i,i<N->f (inv i)=some (.nxt (inv (i+1)))) (he:f (inv N)=some (.brk s)) (hN:N<aW):ax f aW (inv 0)=some (.brk s):=by
 have e:aW=(aW - N - 1)+1+N:=by omega
 rw[e,GD inv N h N 0 _ (by omega),ax,he]
theorem toL {R α:Type} {f:List α×Int->Option (Out R (List α×Int))} {z:α} (xs:List α) (hN:xs.length<=9223372036854775807)
  (hstep: ∀ys i (h:i<xs.length),ys.length=xs.length->f (ys,(i:Int))=some (.nxt (ys.set i xs[i],((i+1:Nat):Int)))) (hend: ∀ys,ys.length=xs.length->f (ys,(xs.length:Int))=some (.brk (ys,(xs.length:Int)))) :
  ax f aW (List.replicate xs.length z,0)=some (.brk (xs,(xs.length:Int))):=by
 have h0:(List.replicate xs.length z,(0:Int))=(fun i:Nat=>(xs.take i++(List.replicate xs.length z).drop i,(i:Int))) 0:=by simp
 rw[h0]
 refine GE (fun i:Nat=>(xs.take i++(List.replicate xs.length z).drop i,(i:Int))) xs.length (fun i hi=>?_) ?_ (dD _ hN)
 ·have hl:(xs.take i++(List.replicate xs.length z).drop i).length=xs.length:=by
   rw[al,ay,aS,List.length_replicate];omega
  rw[hstep _ i hi hl]
  congr 3
  have ht:(xs.take i).length=i:=by rw[ay];omega
  rw[List.set_append_right _ _ (by omega),ht,Nat.sub_self,List.drop_eq_getElem_cons (by rw[List.length_replicate];exact hi),List.set_cons_zero,List.take_succ_eq_append_getElem hi,ai]
  rfl
 ·have:=hend xs rfl
  rw[List.take_of_length_le (aB _),List.drop_of_length_le (by rw[List.length_replicate];exact aB _),List.append_nil]
  exact this
def G6 {α:Type} [Data α] (m:α->Int->Option Int):Prop:= ∀x l,Data.lim x->0<=l->l<=1048576-> ∃r,m x l=some r/\(r<0\/(0<=r/\r<=l/\Data.sm x))
def D6 {α:Type} [Data α] (m:α->Option α):Prop:= ∀x,Data.sm x->m x=some x
def D7 {α:Type} [Data α] [DecidableEq α] (m:α->α->Option Bool):Prop:= ∀x y,Data.sm x->Data.sm y->m x y=some (decide (x=y))
theorem ZH {α:Type} [Data α] {f:Int×Int->Option zg } (xs:List α)
  (hstep: ∀i (h:i<xs.length) l,0<=l->l<=1048576-> ∃r,f (l,(i:Int))=some (if r<0 then .ret (-1) else .nxt (r,((i+1:Nat):Int)))/\(r<0\/(0<=r/\r<=l/\Data.sm xs[i])))
  (hend: ∀l,f (l,(xs.length:Int))=some (.brk (l,(xs.length:Int)))): ∀(m i k:Nat) (l:Int),i+m=xs.length->m<k->0<=l->l<=1048576->
   ax f k (l,(i:Int))=some (.ret (-1))\/ ∃r,ax f k (l,(i:Int))=some (.brk (r,(xs.length:Int)))/\0<=r/\r<=l/\ ∀j (h:j<xs.length),i<=j->Data.sm xs[j]
 | 0,i,k,l,e,hk,h0,h1=>by
  obtain ⟨k,rfl⟩: ∃q,k=q+1:=⟨k - 1,by omega⟩
  obtain rfl:i=xs.length:=by omega
  exact .inr ⟨l,by rw[ax,hend],h0,Int.le_refl _,fun j hj hi=>by omega⟩
 | m+1,i,k,l,e,hk,h0,h1=>by
  obtain ⟨k,rfl⟩: ∃q,k=q+1:=⟨k - 1,by omega⟩
  obtain ⟨r,e1,e2⟩:=hstep i (by omega) l h0 h1
  rw[ax,e1]
  rcases e2 with e2 | ⟨e2,e3,e4⟩
  ·rw[if_pos e2];exact .inl rfl
  ·rw[if_neg (by omega)]
   rcases ZH xs hstep hend m (i+1) k r (by omega) (by omega) e2 (by omega) with h | ⟨q,g1,g2,g3,g4⟩
   ·exact .inl h
   ·refine .inr ⟨q,g1,g2,by omega,fun j hj hi=>?_⟩
    by_cases hji:j=i
    ·subst hji;exact e4
    ·exact g4 j hj (by omega)
theorem szL {α:Type} [Data α] {f:Int×Int->Option zg } (xs:List α) {l:Int} (hN:xs.length<=9223372036854775807)
  (hstep: ∀i (h:i<xs.length) l,0<=l->l<=1048576-> ∃r,f (l,(i:Int))=some (if r<0 then .ret (-1) else .nxt (r,((i+1:Nat):Int)))/\(r<0\/(0<=r/\r<=l/\Data.sm xs[i])))
  (hend: ∀l,f (l,(xs.length:Int))=some (.brk (l,(xs.length:Int)))) (h0:0<=l) (h1:l<=1048576) :
  ∃r,(if decide (IntKind.i64.wrap (l - (xs.length:Int))<0) then (some (-1)) else (aP (ax f aW (IntKind.i64.wrap (l - (xs.length:Int)),0)) (fun r=>some r) (fun s4=>some s4.1)))=some r/\(r<0\/(0<=r/\r<=l/\Data.sm xs)):=by
 rw[fm (by omega) (by omega)]
 by_cases h:l - (xs.length:Int)<0
 ·exact ⟨-1,by rw[if_pos (decide_eq_true h)],.inl (by decide)⟩
 ·rw[if_neg (by simpa using h)]
  rcases ZH xs hstep hend xs.length 0 aW (l - xs.length) (by omega) (dD _ hN) (by omega) (by omega) with e | ⟨r,e,g1,g2,g3⟩
  ·exact ⟨-1,by rw[show ((0:Int))=((0:Nat):Int) from rfl,e];rfl,.inl (by decide)⟩
  ·refine ⟨r,by rw[show ((0:Int))=((0:Nat):Int) from rfl,e];rfl,.inr ⟨g1,by omega,by omega,fun x hx=>?_⟩⟩
   obtain ⟨j,hj,rfl⟩:=List.getElem_of_mem hx
   exact g3 j hj (Nat.zero_le _)
theorem szF {α:Type} [Data α] (xs:List α) {l:Int} (hN:xs.length<=9223372036854775807) (hf: ∀x:α,Data.sm x) (h0:0<=l) (h1:l<=1048576) :
  ∃r,(if decide (IntKind.i64.wrap (l - (xs.length:Int))<0) then (some (-1)) else (some (IntKind.i64.wrap (l - (xs.length:Int)))))=some r/\(r<0\/(0<=r/\r<=l/\Data.sm xs)):=by
 rw[fm (by omega) (by omega)]
 by_cases h:l - (xs.length:Int)<0
 ·exact ⟨-1,by rw[if_pos (decide_eq_true h)],.inl (by decide)⟩
 ·exact ⟨_,by rw[if_neg (by simpa using h)],.inr ⟨by omega,by omega,by omega,fun x _=>hf x⟩⟩
theorem Y0 {α:Type} [DecidableEq α] {f:Int->Option (Out Bool Int)} (xs ys:List α) (hl:xs.length=ys.length)
  (hstep: ∀i (h:i<xs.length) (h':i<ys.length),f (i:Int)=some (if xs[i] =ys[i] then .nxt ((i+1:Nat):Int) else .ret false)) (hend:f (xs.length:Int)=some (.brk (xs.length:Int))): ∀(m i k:Nat),i+m=xs.length->m<k->
   ax f k (i:Int)=some (if xs.drop i=ys.drop i then .brk (xs.length:Int) else .ret false)
 | 0,i,k,e,hk=>by
  obtain ⟨k,rfl⟩: ∃q,k=q+1:=⟨k - 1,by omega⟩
  obtain rfl:i=xs.length:=by omega
  rw[ax,hend,List.drop_of_length_le (aB _),List.drop_of_length_le (by omega),if_pos rfl]
 | m+1,i,k,e,hk=>by
  obtain ⟨k,rfl⟩: ∃q,k=q+1:=⟨k - 1,by omega⟩
  have hi:i<xs.length:=by omega
  have hi':i<ys.length:=by omega
  have d1:=List.drop_eq_getElem_cons hi
  have d2:=List.drop_eq_getElem_cons hi'
  rw[ax,hstep i hi hi',d1,d2]
  by_cases h:xs[i] =ys[i]
  ·rw[if_pos h]
   simp only
   rw[Y0 xs ys hl hstep hend m (i+1) k (by omega) (by omega)]
   simp only[List.cons.injEq,h,true_and]
  ·rw[if_neg h]
   simp only[List.cons.injEq,h,false_and,if_false]
theorem eqL {α:Type} [DecidableEq α] {f:Int->Option (Out Bool Int)} (xs ys:List α) (hN:xs.length<=9223372036854775807)
  (hstep: ∀i (h:i<xs.length) (h':i<ys.length),f (i:Int)=some (if xs[i] =ys[i] then .nxt ((i+1:Nat):Int) else .ret false)) (hend:f (xs.length:Int)=some (.brk (xs.length:Int))) :
  (if (xs.length:Int) !=(ys.length:Int) then (some false) else (aP (ax f aW 0) (fun r=>some r) (fun s4=>some true)))=some (decide (xs=ys)):=by
 by_cases hl:xs.length=ys.length
 ·rw[if_neg (by rw[hl];simp),show ((0:Int))=((0:Nat):Int) from rfl,Y0 xs ys hl hstep hend xs.length 0 aW (by omega) (dD _ hN)]
  by_cases h:xs=ys
  ·subst h;simp[aP]
  ·simp[aP,h]
 ·have:xs≠ys:=fun e=>hl (by rw[e])
  rw[if_pos (by simp;omega)];simp[this]
theorem fQ {α:Type} {c d:Prop} [Decidable c] [Decidable d] {a b:α} (h:c↔d):(if c then some a else some b)=some (if d then a else b):=by
 by_cases k:c
 ·rw[if_pos k,if_pos (h.1 k)]
 ·rw[if_neg k,if_neg (fun e=>k (h.2 e))]
theorem qC {α:Type} {c d:Prop} [Decidable c] [Decidable d] {a b:α} (h:c↔ ¬d):(if c then some b else some a)=some (if d then a else b):=by
 by_cases k:d
 ·rw[if_neg (fun e=>h.1 e k),if_pos k]
 ·rw[if_pos (h.2 k),if_neg k]
theorem eqB {α:Type} [DecidableEq α] {f:Int->Option (Out Bool Int)} {K:Option Bool} (xs ys:List α) (hN:xs.length<=9223372036854775807) (hl:xs.length=ys.length)
  (hstep: ∀i (h:i<xs.length) (h':i<ys.length),f (i:Int)=some (if xs[i] =ys[i] then .nxt ((i+1:Nat):Int) else .ret false)) (hend:f (xs.length:Int)=some (.brk (xs.length:Int))) :
  aP (ax f aW 0) (fun r=>some r) (fun s4=>K)=(if xs=ys then K else some false):=by
 rw[show ((0:Int))=((0:Nat):Int) from rfl,Y0 xs ys hl hstep hend xs.length 0 aW (by omega) (dD _ hN)]
 by_cases h:xs=ys
 ·subst h;simp[aP]
 ·simp[aP,h]
theorem Xy {f:Int->Option (Out Int Int)} (xs ys:List Int)
  (hstep: ∀i (h:i<xs.length) (h':i<ys.length),f (i:Int)=some (if xs[i] < ys[i] then .ret (-1) else if xs[i] > ys[i] then .ret 1 else .nxt ((i+1:Nat):Int))) (hend: ∀i,xs.length<=i\/ys.length<=i->f (i:Int)=some (.brk (i:Int))): ∀(m i k:Nat),i+m=xs.length->m<k->
   (∃r,ax f k (i:Int)=some (.ret r)/\r≠0/\xs≠ys)\/ ∃s,ax f k (i:Int)=some (.brk s)/\(xs.length=ys.length->xs.drop i=ys.drop i)
 | 0,i,k,e,hk=>by
  obtain ⟨k,rfl⟩: ∃q,k=q+1:=⟨k - 1,by omega⟩
  exact .inr ⟨_,by rw[ax,hend i (.inl (by omega))],fun h=>by rw[List.drop_of_length_le (by omega),List.drop_of_length_le (by omega)]⟩
 | m+1,i,k,e,hk=>by
  obtain ⟨k,rfl⟩: ∃q,k=q+1:=⟨k - 1,by omega⟩
  have hi:i<xs.length:=by omega
  by_cases hi':i<ys.length
  ·have hne: ∀h:xs[i] ≠ys[i],xs≠ys:=fun h e=>h (by subst e;rfl)
   rw[ax,hstep i hi hi']
   by_cases h1:xs[i] < ys[i]
   ·rw[if_pos h1];exact .inl ⟨-1,rfl,by decide,hne (by omega)⟩
   ·rw[if_neg h1]
    by_cases h2:xs[i] > ys[i]
    ·rw[if_pos h2];exact .inl ⟨1,rfl,by decide,hne (by omega)⟩
    ·rw[if_neg h2]
     rcases Xy xs ys hstep hend m (i+1) k (by omega) (by omega) with h | ⟨s,g1,g2⟩
     ·exact .inl h
     ·refine .inr ⟨s,g1,fun hl=>?_⟩
      have h3:xs[i] =ys[i]:=by omega
      rw[List.drop_eq_getElem_cons hi,List.drop_eq_getElem_cons hi',g2 hl,h3]
  ·exact .inr ⟨_,by rw[ax,hend i (.inr (by omega))],fun h=>by omega⟩
instance:LawfulBEq ByteArray where
 eq_of_beq {a b} h:=ByteArray.ext (eq_of_beq (show (a.data==b.data)=true from h))
 rfl {a}:=beq_self_eq_true a.data
theorem ZI {α β γ δ:Type} {a b:α×β×γ×δ} :(a.1=b.1/\a.2.1=b.2.1/\a.2.2.1=b.2.2.1/\a.2.2.2=b.2.2.2)↔a=b:=by rw[Prod.ext_iff,Prod.ext_iff,Prod.ext_iff]
theorem dN {α β:Type} (p:α×β):(p.1,p.2)=p:=rfl
theorem aH {α:Type} [Data α] {xs:List α} (h:Data.sm xs):xs.length<=1048576/\ ∀x,x∈xs->Data.sm x:=h
theorem fc {α:Type} [Data α] {xs:List α} (h:Data.lim xs):xs.length<=9223372036854775807/\ ∀x,x∈xs->Data.lim x:=h
end D
set_option synthInstance.maxSize 20000
set_option synthInstance.maxHeartbeats 2000000
namespace D
open Go.RowKit
theorem J4:G6 sW:=fun xs l hl h0 h1=>szF xs (fc hl).1 (fun _=>trivial) h0 h1
theorem Og:G6 uB:=fun xs l hl h0 h1=>szF xs (fc hl).1 (fun _=>⟨trivial,trivial,trivial,trivial⟩) h0 h1
theorem Oh:G6 qe:=by
 intro x l hl h0 h1
 unfold qe
 try simp only[dN]
 obtain ⟨r1,e1,k1⟩:=J4 x.1 l hl.1 (by omega) (by omega)
 rw[e1];simp only[aa]
 rcases k1 with k1 | ⟨k1,j1,s1⟩
 ·exact ⟨-1,by rw[if_pos (decide_eq_true k1)],.inl (by decide)⟩
 rw[if_neg (by simpa using k1)]
 obtain ⟨r2,e2,k2⟩:=Og x.2 r1 hl.2 (by omega) (by omega)
 rw[e2];simp only[aa]
 rcases k2 with k2 | ⟨k2,j2,s2⟩
 ·exact ⟨-1,by rw[if_pos (decide_eq_true k2)],.inl (by decide)⟩
 rw[if_neg (by simpa using k2)]
 exact ⟨_,rfl,.inr ⟨by omega,by omega,⟨s1,s2⟩⟩⟩
theorem Lp:G6 rP:=fun xs l hl h0 h1=>szL (f:=kz xs) xs (fc hl).1 (fun i h l k0 k1=>by
 obtain ⟨r,e,hr⟩:=Oh xs[i] l ((fc hl).2 _ (List.getElem_mem h)) k0 k1
 refine ⟨r,?_,hr⟩
 simp only[kz,bM h,if_true,aD h,aa,dN,e,af (show i<9223372036854775807 by have:=(fc hl).1;omega)]
 exact fQ (by simp)) (fun l=>by simp only[kz,bu];rfl) h0 h1
theorem Iv:G6 mT:=by
 intro x l hl h0 h1
 unfold mT
 try simp only[dN]
 obtain ⟨r1,e1,k1⟩:=Lp x.2 l hl.2 (by omega) (by omega)
 rw[e1];simp only[aa]
 rcases k1 with k1 | ⟨k1,j1,s1⟩
 ·exact ⟨-1,by rw[if_pos (decide_eq_true k1)],.inl (by decide)⟩
 rw[if_neg (by simpa using k1)]
 exact ⟨_,rfl,.inr ⟨by omega,by omega,⟨trivial,s1⟩⟩⟩
theorem Oi:G6 uC:=fun xs l hl h0 h1=>szF xs (fc hl).1 (fun _=>trivial) h0 h1
theorem Oj:G6 uD:=fun xs l hl h0 h1=>szL (f:=lK xs) xs (fc hl).1 (fun i h l k0 k1=>by
 obtain ⟨r,e,hr⟩:=J4 xs[i] l ((fc hl).2 _ (List.getElem_mem h)) k0 k1
 refine ⟨r,?_,hr⟩
 simp only[lK,bM h,if_true,aD h,aa,dN,e,af (show i<9223372036854775807 by have:=(fc hl).1;omega)]
 exact fQ (by simp)) (fun l=>by simp only[lK,bu];rfl) h0 h1
theorem D8:G6 kA:=by
 intro x l hl h0 h1
 unfold kA
 try simp only[dN]
 obtain ⟨r1,e1,k1⟩:=Oi x.2.1 l hl.2.1 (by omega) (by omega)
 rw[e1];simp only[aa]
 rcases k1 with k1 | ⟨k1,j1,s1⟩
 ·exact ⟨-1,by rw[if_pos (decide_eq_true k1)],.inl (by decide)⟩
 rw[if_neg (by simpa using k1)]
 obtain ⟨r2,e2,k2⟩:=Oj x.2.2 r1 hl.2.2 (by omega) (by omega)
 rw[e2];simp only[aa]
 rcases k2 with k2 | ⟨k2,j2,s2⟩
 ·exact ⟨-1,by rw[if_pos (decide_eq_true k2)],.inl (by decide)⟩
 rw[if_neg (by simpa using k2)]
 exact ⟨_,rfl,.inr ⟨by omega,by omega,⟨trivial,s1,s2⟩⟩⟩
theorem BW:G6 mF:=fun xs l hl h0 h1=>szL (f:=gb xs) xs (fc hl).1 (fun i h l k0 k1=>by
 obtain ⟨r,e,hr⟩:=D8 xs[i] l ((fc hl).2 _ (List.getElem_mem h)) k0 k1
 refine ⟨r,?_,hr⟩
 simp only[gb,bM h,if_true,aD h,aa,dN,e,af (show i<9223372036854775807 by have:=(fc hl).1;omega)]
 exact fQ (by simp)) (fun l=>by simp only[gb,bu];rfl) h0 h1
theorem Lq:G6 rQ:=fun xs l hl h0 h1=>szF xs (fc hl).1 (fun _=>⟨trivial,trivial,trivial,trivial⟩) h0 h1
theorem RF:G6 sX:=by
 intro x l hl h0 h1
 unfold sX
 try simp only[dN]
 obtain ⟨r1,e1,k1⟩:=Lq x l hl (by omega) (by omega)
 rw[e1];simp only[aa]
 rcases k1 with k1 | ⟨k1,j1,s1⟩
 ·exact ⟨-1,by rw[if_pos (decide_eq_true k1)],.inl (by decide)⟩
 rw[if_neg (by simpa using k1)]
 exact ⟨_,rfl,.inr ⟨by omega,by omega,s1⟩⟩
theorem BX:G6 jt:=by
 intro x l hl h0 h1
 unfold jt
 try simp only[dN]
 obtain ⟨r1,e1,k1⟩:=RF x.2.1 l hl.2.1 (by omega) (by omega)
 rw[e1];simp only[aa]
 rcases k1 with k1 | ⟨k1,j1,s1⟩
 ·exact ⟨-1,by rw[if_pos (decide_eq_true k1)],.inl (by decide)⟩
 rw[if_neg (by simpa using k1)]
 exact ⟨_,rfl,.inr ⟨by omega,by omega,⟨trivial,s1,trivial⟩⟩⟩
theorem A8:G6 ln:=fun xs l hl h0 h1=>szL (f:=fu xs) xs (fc hl).1 (fun i h l k0 k1=>by
 obtain ⟨r,e,hr⟩:=BX xs[i] l ((fc hl).2 _ (List.getElem_mem h)) k0 k1
 refine ⟨r,?_,hr⟩
 simp only[fu,bM h,if_true,aD h,aa,dN,e,af (show i<9223372036854775807 by have:=(fc hl).1;omega)]
 exact fQ (by simp)) (fun l=>by simp only[fu,bu];rfl) h0 h1
theorem GF:G6 lL:=by
 intro x l hl h0 h1
 unfold lL
 try simp only[dN]
 obtain ⟨r1,e1,k1⟩:=BW x.1 l hl.1 (by omega) (by omega)
 rw[e1];simp only[aa]
 rcases k1 with k1 | ⟨k1,j1,s1⟩
 ·exact ⟨-1,by rw[if_pos (decide_eq_true k1)],.inl (by decide)⟩
 rw[if_neg (by simpa using k1)]
 obtain ⟨r2,e2,k2⟩:=A8 x.2 r1 hl.2 (by omega) (by omega)
 rw[e2];simp only[aa]
 rcases k2 with k2 | ⟨k2,j2,s2⟩
 ·exact ⟨-1,by rw[if_pos (decide_eq_true k2)],.inl (by decide)⟩
 rw[if_neg (by simpa using k2)]
 exact ⟨_,rfl,.inr ⟨by omega,by omega,⟨s1,s2⟩⟩⟩
theorem A9:G6 lp:=fun xs l hl h0 h1=>szF xs (fc hl).1 (fun _=>⟨trivial,trivial,trivial⟩) h0 h1
theorem Lr:G6 oE:=by
 intro x l hl h0 h1
 unfold oE
 try simp only[dN]
 obtain ⟨r1,e1,k1⟩:=Iv x.1 l hl.1 (by omega) (by omega)
 rw[e1];simp only[aa]
 rcases k1 with k1 | ⟨k1,j1,s1⟩
 ·exact ⟨-1,by rw[if_pos (decide_eq_true k1)],.inl (by decide)⟩
 rw[if_neg (by simpa using k1)]
 obtain ⟨r2,e2,k2⟩:=GF x.2.1 r1 hl.2.1 (by omega) (by omega)
 rw[e2];simp only[aa]
 rcases k2 with k2 | ⟨k2,j2,s2⟩
 ·exact ⟨-1,by rw[if_pos (decide_eq_true k2)],.inl (by decide)⟩
 rw[if_neg (by simpa using k2)]
 obtain ⟨r3,e3,k3⟩:=A9 x.2.2.1 r2 hl.2.2.1 (by omega) (by omega)
 rw[e3];simp only[aa]
 rcases k3 with k3 | ⟨k3,j3,s3⟩
 ·exact ⟨-1,by rw[if_pos (decide_eq_true k3)],.inl (by decide)⟩
 rw[if_neg (by simpa using k3)]
 rw[fm (by have:x.2.2.2.size<=9223372036854775807:=hl.2.2.2;omega) (by omega)]
 by_cases k4:r3 - (x.2.2.2.size:Int)<0
 ·exact ⟨-1,by rw[if_pos (decide_eq_true k4)],.inl (by decide)⟩
 rw[if_neg (by simpa using k4)]
 have s4:x.2.2.2.size<=1048576:=by omega
 exact ⟨_,rfl,.inr ⟨by omega,by omega,⟨s1,s2,s3,s4⟩⟩⟩
theorem J5:D6 pv:=by
 intro xs hx
 have hn:=(aH hx).1
 unfold pv
 rw[wq (by omega)];simp only[aa]
 rw[toL (f:=mV xs) xs (by omega) (fun ys i h hy=>by simp only[mV,bM h,if_true,aD h,aD (show i<ys.length by omega),aa,dN,af (show i<9223372036854775807 by omega),Int.toNat_natCast]) (fun ys hy=>by simp only[mV,bu];rfl)]
 rfl
theorem RG:D6 sZ:=by
 intro x hx
 unfold sZ
 simp only[dN,aa]
theorem Ok:D6 qg:=by
 intro xs hx
 have hn:=(aH hx).1
 unfold qg
 rw[wq (by omega)];simp only[aa]
 rw[toL (f:=lR xs) xs (by omega) (fun ys i h hy=>by simp only[lR,bM h,if_true,aD h,aD (show i<ys.length by omega),aa,dN,RG xs[i] ((aH hx).2 _ (List.getElem_mem h)),af (show i<9223372036854775807 by omega),Int.toNat_natCast]) (fun ys hy=>by simp only[lR,bu];rfl)]
 rfl
theorem Ol:D6 qi:=by
 intro x hx
 unfold qi
 simp only[dN,aa,J5 x.1 hx.1,Ok x.2 hx.2]
theorem Ls:D6 oJ:=by
 intro xs hx
 have hn:=(aH hx).1
 unfold oJ
 rw[wq (by omega)];simp only[aa]
 rw[toL (f:=kD xs) xs (by omega) (fun ys i h hy=>by simp only[kD,bM h,if_true,aD h,aD (show i<ys.length by omega),aa,dN,Ol xs[i] ((aH hx).2 _ (List.getElem_mem h)),af (show i<9223372036854775807 by omega),Int.toNat_natCast]) (fun ys hy=>by simp only[kD,bu];rfl)]
 rfl
theorem Iw:D6 mW:=by
 intro x hx
 unfold mW
 simp only[dN,aa,Ls x.2 hx.2]
theorem Om:D6 qj:=by
 intro xs hx
 have hn:=(aH hx).1
 unfold qj
 rw[wq (by omega)];simp only[aa]
 rw[toL (f:=lS xs) xs (by omega) (fun ys i h hy=>by simp only[lS,bM h,if_true,aD h,aD (show i<ys.length by omega),aa,dN,af (show i<9223372036854775807 by omega),Int.toNat_natCast]) (fun ys hy=>by simp only[lS,bu];rfl)]
 rfl
theorem On:D6 qk:=by
 intro xs hx
 have hn:=(aH hx).1
 unfold qk
 rw[wq (by omega)];simp only[aa]
 rw[toL (f:=lT xs) xs (by omega) (fun ys i h hy=>by simp only[lT,bM h,if_true,aD h,aD (show i<ys.length by omega),aa,dN,J5 xs[i] ((aH hx).2 _ (List.getElem_mem h)),af (show i<9223372036854775807 by omega),Int.toNat_natCast]) (fun ys hy=>by simp only[lT,bu];rfl)]
 rfl
theorem D9:D6 kE:=by
 intro x hx
 unfold kE
 simp only[dN,aa,Om x.2.1 hx.2.1,On x.2.2 hx.2.2]
theorem BY:D6 jw:=by
 intro xs hx
 have hn:=(aH hx).1
 unfold jw
 rw[wq (by omega)];simp only[aa]
 rw[toL (f:=gh xs) xs (by omega) (fun ys i h hy=>by simp only[gh,bM h,if_true,aD h,aD (show i<ys.length by omega),aa,dN,D9 xs[i] ((aH hx).2 _ (List.getElem_mem h)),af (show i<9223372036854775807 by omega),Int.toNat_natCast]) (fun ys hy=>by simp only[gh,bu];rfl)]
 rfl
theorem Oo:D6 ql:=by
 intro x hx
 unfold ql
 simp only[dN,aa]
theorem Lt:D6 oK:=by
 intro xs hx
 have hn:=(aH hx).1
 unfold oK
 rw[wq (by omega)];simp only[aa]
 rw[toL (f:=kF xs) xs (by omega) (fun ys i h hy=>by simp only[kF,bM h,if_true,aD h,aD (show i<ys.length by omega),aa,dN,Oo xs[i] ((aH hx).2 _ (List.getElem_mem h)),af (show i<9223372036854775807 by omega),Int.toNat_natCast]) (fun ys hy=>by simp only[kF,bu];rfl)]
 rfl
theorem RH:D6 ta:=by
 intro x hx
 unfold ta
 simp only[dN,aa,Lt x hx]
theorem BZ:D6 jx:=by
 intro x hx
 unfold jx
 simp only[dN,aa,RH x.2.1 hx.2.1]
theorem Ba:D6 iM:=by
 intro xs hx
 have hn:=(aH hx).1
 unfold iM
 rw[wq (by omega)];simp only[aa]
 rw[toL (f:=fx xs) xs (by omega) (fun ys i h hy=>by simp only[fx,bM h,if_true,aD h,aD (show i<ys.length by omega),aa,dN,BZ xs[i] ((aH hx).2 _ (List.getElem_mem h)),af (show i<9223372036854775807 by omega),Int.toNat_natCast]) (fun ys hy=>by simp only[fx,bu];rfl)]
 rfl
theorem GG:D6 lU:=by
 intro x hx
 unfold lU
 simp only[dN,aa,BY x.1 hx.1,Ba x.2 hx.2]
theorem B0:D6 jy:=by
 intro x hx
 unfold jy
 simp only[dN,aa]
theorem Bb:D6 iN:=by
 intro xs hx
 have hn:=(aH hx).1
 unfold iN
 rw[wq (by omega)];simp only[aa]
 rw[toL (f:=fy xs) xs (by omega) (fun ys i h hy=>by simp only[fy,bM h,if_true,aD h,aD (show i<ys.length by omega),aa,dN,B0 xs[i] ((aH hx).2 _ (List.getElem_mem h)),af (show i<9223372036854775807 by omega),Int.toNat_natCast]) (fun ys hy=>by simp only[fy,bu];rfl)]
 rfl
theorem Lu:D6 iu:=by
 intro x hx
 unfold iu
 simp only[dN,aa,Iw x.1 hx.1,GG x.2.1 hx.2.1,Bb x.2.2.1 hx.2.2.1]
theorem J6:D7 tf:=fun xs ys hx hy=>eqL (f:=mX xs ys) xs ys (by have:=(aH hx).1;omega) (fun i h h'=>by
 simp only[mX,bM h,if_true,aD h,aD h',aa,dN,af (show i<9223372036854775807 by have:=(aH hx).1;omega)]
 first | exact fQ (by simp) | exact qC (by simp) | exact fQ (by simp[Prod.ext_iff])) (by simp only[mX,bu];rfl)
theorem RI:D7 tg:=by
 intro x y hx hy
 unfold tg
 try simp only[dN,aa]
 repeat' split
 all_goals simp_all[Prod.ext_iff]
theorem Oq:D7 uH:=fun xs ys hx hy=>eqL (f:=lX xs ys) xs ys (by have:=(aH hx).1;omega) (fun i h h'=>by
 simp only[lX,bM h,if_true,aD h,aD h',aa,dN,RI xs[i] ys[i] ((aH hx).2 _ (List.getElem_mem h)) ((aH hy).2 _ (List.getElem_mem h')),af (show i<9223372036854775807 by have:=(aH hx).1;omega)]
 first | exact fQ (by simp) | exact qC (by simp) | exact fQ (by simp[Prod.ext_iff])) (by simp only[lX,bu];rfl)
theorem Ot:D7 qp:=by
 intro x y hx hy
 unfold qp
 try simp only[dN,aa,J6 x.1 y.1 hx.1 hy.1,Oq x.2 y.2 hx.2 hy.2]
 repeat' split
 all_goals simp_all[Prod.ext_iff]
theorem Lv:D7 rR:=fun xs ys hx hy=>eqL (f:=kJ xs ys) xs ys (by have:=(aH hx).1;omega) (fun i h h'=>by
 simp only[kJ,bM h,if_true,aD h,aD h',aa,dN,Ot xs[i] ys[i] ((aH hx).2 _ (List.getElem_mem h)) ((aH hy).2 _ (List.getElem_mem h')),af (show i<9223372036854775807 by have:=(aH hx).1;omega)]
 first | exact fQ (by simp) | exact qC (by simp) | exact fQ (by simp[Prod.ext_iff])) (by simp only[kJ,bu];rfl)
theorem Ix:D7 mY:=by
 intro x y hx hy
 unfold mY
 try simp only[dN,aa,Lv x.2 y.2 hx.2 hy.2]
 repeat' split
 all_goals simp_all[Prod.ext_iff]
theorem Ou:D7 uI:=fun xs ys hx hy=>eqL (f:=lY xs ys) xs ys (by have:=(aH hx).1;omega) (fun i h h'=>by
 simp only[lY,bM h,if_true,aD h,aD h',aa,dN,af (show i<9223372036854775807 by have:=(aH hx).1;omega)]
 first | exact fQ (by simp) | exact qC (by simp) | exact fQ (by simp[Prod.ext_iff])) (by simp only[lY,bu];rfl)
theorem Ov:D7 uJ:=fun xs ys hx hy=>eqL (f:=lZ xs ys) xs ys (by have:=(aH hx).1;omega) (fun i h h'=>by
 simp only[lZ,bM h,if_true,aD h,aD h',aa,dN,J6 xs[i] ys[i] ((aH hx).2 _ (List.getElem_mem h)) ((aH hy).2 _ (List.getElem_mem h')),af (show i<9223372036854775807 by have:=(aH hx).1;omega)]
 first | exact fQ (by simp) | exact qC (by simp) | exact fQ (by simp[Prod.ext_iff])) (by simp only[lZ,bu];rfl)
theorem Ea:D7 kK:=by
 intro x y hx hy
 unfold kK
 try simp only[dN,aa,Ou x.2.1 y.2.1 hx.2.1 hy.2.1,Ov x.2.2 y.2.2 hx.2.2 hy.2.2]
 repeat' split
 all_goals simp_all[Prod.ext_iff]
theorem B1:D7 mH:=fun xs ys hx hy=>eqL (f:=gm xs ys) xs ys (by have:=(aH hx).1;omega) (fun i h h'=>by
 simp only[gm,bM h,if_true,aD h,aD h',aa,dN,Ea xs[i] ys[i] ((aH hx).2 _ (List.getElem_mem h)) ((aH hy).2 _ (List.getElem_mem h')),af (show i<9223372036854775807 by have:=(aH hx).1;omega)]
 first | exact fQ (by simp) | exact qC (by simp) | exact fQ (by simp[Prod.ext_iff])) (by simp only[gm,bu];rfl)
theorem Ow:D7 qq:=by
 intro x y hx hy
 unfold qq
 try simp only[dN,aa]
 repeat' split
 all_goals simp_all[Prod.ext_iff]
theorem Lw:D7 rS:=fun xs ys hx hy=>eqL (f:=kL xs ys) xs ys (by have:=(aH hx).1;omega) (fun i h h'=>by
 simp only[kL,bM h,if_true,aD h,aD h',aa,dN,Ow xs[i] ys[i] ((aH hx).2 _ (List.getElem_mem h)) ((aH hy).2 _ (List.getElem_mem h')),af (show i<9223372036854775807 by have:=(aH hx).1;omega)]
 first | exact fQ (by simp) | exact qC (by simp) | exact fQ (by simp[Prod.ext_iff])) (by simp only[kL,bu];rfl)
theorem RJ:D7 th:=by
 intro x y hx hy
 unfold th
 try simp only[dN,aa,Lw x y hx hy]
 repeat' split
 all_goals simp_all[Prod.ext_iff]
theorem B2:D7 jB:=by
 intro x y hx hy
 unfold jB
 try simp only[dN,aa,RJ x.2.1 y.2.1 hx.2.1 hy.2.1]
 repeat' split
 all_goals simp_all[Prod.ext_iff]
theorem Bc:D7 lx:=fun xs ys hx hy=>eqL (f:=fA xs ys) xs ys (by have:=(aH hx).1;omega) (fun i h h'=>by
 simp only[fA,bM h,if_true,aD h,aD h',aa,dN,B2 xs[i] ys[i] ((aH hx).2 _ (List.getElem_mem h)) ((aH hy).2 _ (List.getElem_mem h')),af (show i<9223372036854775807 by have:=(aH hx).1;omega)]
 first | exact fQ (by simp) | exact qC (by simp) | exact fQ (by simp[Prod.ext_iff])) (by simp only[fA,bu];rfl)
theorem GH:D7 l5:=by
 intro x y hx hy
 unfold l5
 try simp only[dN,aa,B1 x.1 y.1 hx.1 hy.1,Bc x.2 y.2 hx.2 hy.2]
 repeat' split
 all_goals simp_all[Prod.ext_iff]
theorem B3:D7 jC:=by
 intro x y hx hy
 unfold jC
 try simp only[dN,aa]
 repeat' split
 all_goals simp_all[Prod.ext_iff]
theorem Bd:D7 lz:=fun xs ys hx hy=>eqL (f:=fB xs ys) xs ys (by have:=(aH hx).1;omega) (fun i h h'=>by
 simp only[fB,bM h,if_true,aD h,aD h',aa,dN,B3 xs[i] ys[i] ((aH hx).2 _ (List.getElem_mem h)) ((aH hy).2 _ (List.getElem_mem h')),af (show i<9223372036854775807 by have:=(aH hx).1;omega)]
 first | exact fQ (by simp) | exact qC (by simp) | exact fQ (by simp[Prod.ext_iff])) (by simp only[fB,bu];rfl)
theorem CV:D7 iA:=by
 intro x y hx hy
 unfold iA
 try simp only[dN,aa,Ix x.1 y.1 hx.1 hy.1,GH x.2.1 y.2.1 hx.2.1 hy.2.1,Bd x.2.2.1 y.2.2.1 hx.2.2.1 hy.2.2.1]
 repeat' split
 all_goals simp_all[Prod.ext_iff]
end D
namespace D
open Go.RowKit
theorem da {R S:Type} {f:S->Option (Out R S)} (Inv:Nat->S->Prop) (Q:Out R S->Prop) (N:Nat)
  (h: ∀i s,i<=N->Inv i s->(i<N/\ ∃s',f s=some (.nxt s')/\Inv (i+1) s')\/ ∃o,f s=some o/\(∀s',o≠ .nxt s')/\Q o) {s:S} (h0:Inv 0 s) (hN:N<aW): ∃o,ax f aW s=some o/\Q o:=by
 have key: ∀(k i:Nat) (s:S),i<=N->N<i+k->Inv i s-> ∃o,ax f k s=some o/\Q o:=by
  intro k
  induction k with
  | zero=>intro i s h1 h2;omega
  | succ k ih =>
   intro i s h1 h2 hI
   rcases h i s h1 hI with ⟨hi,s',e,hI'⟩ | ⟨o,e,hn,hq⟩
   ·obtain ⟨o,e',hq⟩:=ih (i+1) s' (by omega) (by omega) hI'
    exact ⟨o,by rw[ax,e];exact e',hq⟩
   ·refine ⟨o,?_,hq⟩
    rw[ax,e]
    cases o with
    | nxt s'=>exact absurd rfl (hn s')
    | brk s'=>rfl
    | ret r=>rfl
 exact key aW 0 s (by omega) (by omega) h0
theorem mB {R S:Type} {f:S->Option (Out R S)} (Inv:Nat->S->Prop) (N:Nat) (h: ∀i s,i<N->Inv i s-> ∃s',f s=some (.nxt s')/\Inv (i+1) s') (he: ∀s,Inv N s->f s=some (.brk s)) {s:S} (h0:Inv 0 s) (hN:N<aW): ∃s',ax f aW s=some (.brk s')/\Inv N s':=by
 obtain ⟨o,e,s',rfl,h⟩:=da (f:=f) Inv (fun o=> ∃s',o= .brk s'/\Inv N s') N (fun i s hi hI=>by
  by_cases h1:i<N
  ·exact .inl ⟨h1,h i s h1 hI⟩
  ·obtain rfl:i=N:=by omega
   exact .inr ⟨_,he s hI,(fun s' e=>by cases e),s,rfl,hI⟩) h0 hN
 exact ⟨s',e,h⟩
theorem bq {R S:Type} {f:S->Option (Out R S)} (st:Nat->S) (N:Nat) (h: ∀i,i<N->f (st i)=some (.nxt (st (i+1)))) (he:f (st N)=some (.brk (st N))) (hN:N<aW):ax f aW (st 0)=some (.brk (st N)):=GE st N h he hN
theorem uh {k:Nat} (h:k<=9223372036854775807):k<aW:=dD k h
theorem pS {i:Nat} (h:i<=9223372036854775807):IntKind.i64.wrap ((i:Int) - 1)=(i:Int) - 1:=fm (by omega) (by omega)
theorem aL {α:Type} {b:Nat} {xs ys:List α} (h:(xs.length+ys.length)*b<=140737488355328):cr b xs ys=some (xs++ys):=by unfold cr;rw[if_pos h]
theorem cx {R S T:Type} {x:Option (Out R S)} {r:R} {kr:R->Option T} {k:S->Option T} (h:x=some (.ret r)):aP x kr k=kr r:=by rw[h];rfl
theorem aw {R S T:Type} {x:Option (Out R S)} {s:S} {kr:R->Option T} {k:S->Option T} (h:x=some (.brk s)):aP x kr k=k s:=by rw[h];rfl
def nth {α:Type} [Inhabited α] (xs:List α) (i:Int):α:=xs.getD i.toNat default
section
variable {α:Type} [Inhabited α] {xs ys:List α}
theorem aF {i:Int} (h0:0<=i) (h1:i<xs.length):aQ xs i=some (nth xs i):=by
 unfold aQ nth
 rw[if_pos h0]
 have:i.toNat<xs.length:=by omega
 simp[List.getD_eq_getElem?_getD,this]
theorem b8 {i:Nat} (h:i<xs.length):nth xs (i:Int)=xs[i]:=by simp[nth,List.getD_eq_getElem?_getD,h]
theorem cy {i:Int} (h0:0<=i) (h1:i<xs.length):nth xs i∈xs:=by
 have:i.toNat<xs.length:=by omega
 have e:nth xs i=xs[i.toNat]:=by simp[nth,List.getD_eq_getElem?_getD,this]
 rw[e];exact List.getElem_mem this
theorem iC {i:Int} (h0:0<=i) (h1:i<xs.length):nth (xs++ys) i=nth xs i:=by
 have:i.toNat<xs.length:=by omega
 simp[nth,List.getD_eq_getElem?_getD,List.getElem?_append_left this]
theorem Iy {x:α} (h:x∈xs): ∃i:Nat,i<xs.length/\nth xs (i:Int)=x:=by
 obtain ⟨i,hi,rfl⟩:=List.getElem_of_mem h
 exact ⟨i,hi,b8 hi⟩
theorem GI {i:Int} {x:α} (h0:0<=i) (h1:i<xs.length):nth (xs.set i.toNat x) i=x:=by
 have:i.toNat<xs.length:=by omega
 simp[nth,List.getD_eq_getElem?_getD,this]
theorem VN (h:xs.length=ys.length) (k: ∀i:Nat,i<xs.length->nth xs (i:Int)=nth ys (i:Int)):xs=ys:=by
 refine List.ext_getElem h fun i h1 h2=>?_
 have:=k i h1
 rwa [b8 h1,b8 h2] at this
end
section
variable {κ:Type} [DecidableEq κ]
def nbL (l:List κ):Option κ->List κ
 | none=>l
 | some x=>if x∈l then l else l++ [x]
def nbI (l:List κ):Option κ->Int
 | none=> -1
 | some x=>(l.idxOf x:Int)
def nbS (l:List κ) (os:List (Option κ)):List κ:=os.foldl nbL l
def nbR (l:List κ):List (Option κ)->List Int
 | [] =>[]
 | o::os=>nbI l o::nbR (nbL l o) os
theorem wt (l:List κ) (os:List (Option κ)) (o:Option κ):nbS l (os++ [o])=nbL (nbS l os) o:=by simp[nbS]
theorem tm: ∀(l:List κ) (os:List (Option κ)) (o:Option κ),nbR l (os++ [o])=nbR l os++ [nbI (nbS l os) o]
 | l,[],o=>rfl
 | l,p::os,o=>by
  show nbI l p::nbR (nbL l p) (os++ [o])=nbI l p::nbR (nbL l p) os++ [nbI (nbS (nbL l p) os) o]
  rw[tm (nbL l p) os o];rfl
theorem eS: ∀(l:List κ) (os:List (Option κ)),(nbR l os).length=os.length
 | l,[] =>rfl
 | l,o::os=>by show (nbR (nbL l o) os).length+1=_;rw[eS];rfl
theorem Lx (l : List κ) (o : Option κ) : l <+: nbL l o := by
  cases o with
  | none => exact List.prefix_refl l
  | some x => unfold nbL; simp only; split
              · exact List.prefix_refl l
              · exact List.prefix_append l [x]
theorem lG: ∀(l:List κ) (os:List (Option κ)),l <+:nbS l os
 | l,[] =>List.prefix_refl l
 | l,o::os=>(Lx l o).trans (lG (nbL l o) os)
theorem Ox {l : List κ} {o : Option κ} (h : l.Nodup) : (nbL l o).Nodup := by
  cases o with
  | none => exact h
  | some x => unfold nbL; simp only; split
              · exact h
              · rename_i hx; exact List.nodup_append.2 ⟨h, by simp, by rintro a ha b hb rfl; simp at hb; exact hx (hb ▸ ha)⟩
theorem sF: ∀ {l:List κ} {os:List (Option κ)},l.Nodup->(nbS l os).Nodup
 | l,[],h=>h
 | l,o::os,h=>sF (l:=nbL l o) (os:=os) (Ox h)
theorem Oy {l : List κ} {o : Option κ} {x : κ} : x ∈ nbL l o ↔ x ∈ l \/ o = some x := by
  cases o with
  | none => simp [nbL]
  | some y => unfold nbL; simp only; split
              · rename_i h; constructor
                · exact .inl
                · rintro (h' | h')
                  · exact h'
                  · simp at h'; exact h' ▸ h
              · simp; exact or_congr Iff.rfl eq_comm
theorem xu: ∀ {l:List κ} {os:List (Option κ)} {x:κ},x∈nbS l os↔x∈l\/some x∈os
 | l,[],x=>by simp[nbS]
 | l,o::os,x=>by
  show x∈nbS (nbL l o) os↔_
  rw[xu,Oy,List.mem_cons,or_assoc]
  exact or_congr Iff.rfl (or_congr eq_comm Iff.rfl)
theorem mM {l:List κ} {x:κ} (h:x∈l):nbL l (some x)=l:=by simp[nbL,h]
theorem lH {l:List κ} {x:κ} (h:x∉l):nbL l (some x)=l++ [x]:=by simp[nbL,h]
theorem pT {l:List κ} {x:κ} (h:x∉l):l.idxOf x=l.length:=List.idxOf_eq_length h
def bfS (nx:κ->List (Option κ)) (first:κ):Nat->List κ
 | 0=>[first]
 | i+1=>match (bfS nx first i)[i]? with
  | some x=>nbS (bfS nx first i) (nx x)
  | none=>bfS nx first i
def bfR (nx:κ->List (Option κ)) (first:κ):Nat->List (List Int)
 | 0=>[]
 | i+1=>bfR nx first i++(match (bfS nx first i)[i]? with
  | some x=>[nbR (bfS nx first i) (nx x)]
  | none=>[])
variable {nx:κ->List (Option κ)} {first:κ}
theorem Eb {i:Nat} (h:i<(bfS nx first i).length):bfS nx first (i+1)=nbS (bfS nx first i) (nx ((bfS nx first i)[i])):=by
 rw[bfS,List.getElem?_eq_getElem h]
theorem wu {i:Nat} (h:i<(bfS nx first i).length):bfR nx first (i+1)=bfR nx first i++ [nbR (bfS nx first i) (nx ((bfS nx first i)[i]))]:=by
 rw[bfR,List.getElem?_eq_getElem h]
theorem bU (i:Nat):bfS nx first i <+:bfS nx first (i+1):=by
 rw[bfS]
 split
 ·exact lG _ _
 ·exact List.prefix_refl _
theorem xw {i j:Nat} (h:i<=j):bfS nx first i <+:bfS nx first j:=by
 induction h with
 | refl=>exact List.prefix_refl _
 | step _ ih=>exact ih.trans (bU _)
theorem oj: ∀i,(bfS nx first i).Nodup
 | 0=>by simp[bfS]
 | i+1=>by
  rw[bfS]
  split
  ·exact sF (oj i)
  ·exact oj i
theorem kW {G:κ->Prop} (h0:G first) (h: ∀x,G x-> ∀y,some y∈nx x->G y): ∀i,∀x∈bfS nx first i,G x
 | 0=>by simp[bfS];exact h0
 | i+1=>by
  rw[bfS]
  split
  ·rename_i y hy
   intro x hx
   rcases xu.1 hx with hx | hx
   ·exact kW h0 h i x hx
   ·exact h y (kW h0 h i y (List.mem_of_getElem? hy)) x hx
  ·exact kW h0 h i
theorem GJ (i:Nat):(bfS nx first i)[0]? =some first:=by
 obtain ⟨t,ht⟩:=xw (nx:=nx) (first:=first) (Nat.zero_le i)
 rw[<-ht];rfl
theorem ka: ∀ {i:Nat},(∀j,j<i->j<(bfS nx first j).length)->(bfR nx first i).length=i
 | 0,_=>rfl
 | i+1,h=>by rw[wu (h i (by omega)),al,ka fun j hj=>h j (by omega)];rfl
def bfE (nx:κ->List (Option κ)) (first:κ) (N:Nat):Prop:=N=(bfS nx first N).length/\ ∀i,i<N->i<(bfS nx first i).length
theorem Tq {B:Nat} (hB: ∀i,(bfS nx first i).length<=B): ∃N,N<=B/\bfE nx first N:=by
 have key: ∀m i,i+m=B->(∀j,j<i->j<(bfS nx first j).length)-> ∃N,N<=B/\bfE nx first N:=by
  intro m
  induction m with
  | zero =>
   intro i hi hj
   have h1:=hB i
   have h2:i<=(bfS nx first i).length:=by
    cases i with
    | zero=>omega
    | succ i =>
     have:=hj i (by omega)
     have hp:=(bU (nx:=nx) (first:=first) i).length_le
     omega
   exact ⟨i,by omega,by omega,hj⟩
  | succ m ih =>
   intro i hi hj
   by_cases h:i<(bfS nx first i).length
   ·exact ih (i+1) (by omega) fun j hj'=>by
     by_cases e:j=i
     ·subst e;exact h
     ·exact hj j (by omega)
   ·have h2:i<=(bfS nx first i).length:=by
     cases i with
     | zero=>omega
     | succ i =>
      have:=hj i (by omega)
      have hp:=(bU (nx:=nx) (first:=first) i).length_le
      omega
    exact ⟨i,by omega,by omega,hj⟩
 exact key B 0 (by omega) (by omega)
theorem RK {N M:Nat} (h:bfE nx first N) (k:bfE nx first M):N=M:=by
 rcases Nat.lt_trichotomy N M with e | e | e
 ·have:=k.2 N e;have:=h.1;omega
 ·exact e
 ·have:=h.2 M e;have:=k.1;omega
end
end D
namespace D
open Go.RowKit
section
variable {α:Type} [Inhabited α]
def smk (mk:α->Nat):List α->Nat
 | [] =>0
 | x::xs=>mk x+smk mk xs
def mkd (mk:α->Nat) (m:α->Nat->α):List α->Nat->List α
 | [],_=>[]
 | x::xs,k=>m x k::mkd mk m xs (k+mk x)
theorem Ec (mk:α->Nat): ∀(xs:List α) (x:α),smk mk (xs++ [x])=smk mk xs+mk x
 | [],x=>by simp[smk]
 | y::xs,x=>by simp[smk,Ec mk xs x,Nat.add_assoc]
theorem Ed (mk:α->Nat) (m:α->Nat->α): ∀(xs:List α) (x:α) (k:Nat),mkd mk m (xs++ [x]) k=mkd mk m xs k++ [m x (k+smk mk xs)]
 | [],x,k=>by simp[mkd,smk]
 | y::xs,x,k=>by simp[mkd,smk,Ed mk m xs x,Nat.add_assoc]
theorem bh (mk:α->Nat) (m:α->Nat->α): ∀(xs:List α) (k:Nat),(mkd mk m xs k).length=xs.length
 | [],_=>rfl
 | x::xs,k=>by simp[mkd,bh mk m xs]
theorem Ee (mk:α->Nat) (m:α->Nat->α): ∀(xs:List α) (k i:Nat),(mkd mk m xs k).take i=mkd mk m (xs.take i) k
 | [],_,_=>by simp[mkd]
 | x::xs,k,0=>by simp[mkd]
 | x::xs,k,i+1=>by simp[mkd,Ee mk m xs]
theorem RL {xs:List α} {k:Nat} (h:k<xs.length):xs.take (k+1)=xs.take k++ [nth xs (k:Int)]:=by
 rw[List.take_succ_eq_append_getElem h,b8 h]
theorem Xz (mk:α->Nat) (m:α->Nat->α) (xs:List α) (k:Nat) {i:Nat} (h:i<xs.length):nth (mkd mk m xs k) (i:Int)=m (nth xs (i:Int)) (k+smk mk (xs.take i)):=by
 have h':i<(mkd mk m xs k).length:=by rw[bh];exact h
 have e:=RL h'
 rw[Ee,Ee,RL h,Ed] at e
 have:=List.append_cancel_left e
 simpa using this.symm
theorem Ef (mk:α->Nat) {xs:List α} {i:Nat} (h:i<xs.length):smk mk (xs.take (i+1))=smk mk (xs.take i)+mk (nth xs (i:Int)):=by rw[RL h,Ec]
theorem Oz (mk:α->Nat): ∀(xs:List α) (i:Nat),smk mk (xs.take i)<=smk mk xs
 | [],_=>by simp
 | x::xs,0=>by simp[smk]
 | x::xs,i+1=>by simp[smk];exact Oz mk xs i
theorem jr (mk:α->Nat) {B:Nat} : ∀(xs:List α),(∀x∈xs,mk x<=B)->smk mk xs<=xs.length*B
 | [],_=>by simp[smk]
 | x::xs,h=>by
  have h1:=jr mk xs fun y hy=>h y (by simp[hy])
  have h2:=h x (by simp)
  simp only[smk,ak,Nat.add_mul,Nat.one_mul];omega
theorem VO {xs ys:List α} {i:Nat} (hi:i<xs.length) (hl:ys.length=i) (x:α):(ys++xs.drop i).set i x=ys++ [x] ++xs.drop (i+1):=by
 rw[List.set_append_right _ _ (by omega),hl,Nat.sub_self,List.drop_eq_getElem_cons hi,List.set_cons_zero,ai];rfl
theorem Eg {R:Type} {f:List α×Int×Int->Option (Out R (List α×Int×Int))} (xs:List α) (mk:α->Nat) (m:α->Nat->α) (hN:xs.length<=9223372036854775807) {k:Nat} (hk:k+smk mk xs<=4611686018427387904)
  (hstep: ∀ys (i k:Nat),i<xs.length->ys.length=xs.length->nth ys (i:Int)=nth xs (i:Int)->k+mk (nth xs (i:Int))<=4611686018427387904->f (ys,(k:Int),(i:Int))=some (.nxt (ys.set i (m (nth xs (i:Int)) k),((k+mk (nth xs (i:Int)):Nat):Int),((i+1:Nat):Int))))
  (hend: ∀ys (k:Nat),ys.length=xs.length->f (ys,(k:Int),(xs.length:Int))=some (.brk (ys,(k:Int),(xs.length:Int)))) :
  ax f aW (xs,(k:Int),0)=some (.brk (mkd mk m xs k,((k+smk mk xs:Nat):Int),(xs.length:Int))):=by
 have hlen: ∀i,i<=xs.length->(mkd mk m (xs.take i) k++xs.drop i).length=xs.length:=fun i hi=>by
  rw[al,bh,ay,aS];omega
 have:=bq (f:=f) (fun i=>(mkd mk m (xs.take i) k++xs.drop i,((k+smk mk (xs.take i):Nat):Int),(i:Int))) xs.length (fun i hi=>by
  have hl:(mkd mk m (xs.take i) k).length=i:=by rw[bh,ay];omega
  have hle:=Oz mk xs (i+1)
  rw[Ef mk hi] at hle
  rw[hstep _ i (k+smk mk (xs.take i)) hi (hlen i (by omega)) ?_ (by omega),VO hi hl,RL hi,Ed,Ec,Nat.add_assoc]
  have h':i<(mkd mk m (xs.take i) k++xs.drop i).length:=by rw[hlen i (by omega)];exact hi
  rw[b8 h',b8 hi,List.getElem_append_right (by omega)]
  simp[hl]) (by
  have:=hend (mkd mk m (xs.take xs.length) k++xs.drop xs.length) (k+smk mk (xs.take xs.length)) (hlen _ (aB _))
  exact this) (uh hN)
 simpa [mkd,smk] using this
theorem Eh {f:Int×Int->Option zg } (xs:List α) (mk:α->Nat) (m:α->Nat->α) (hN:xs.length<=9223372036854775807) {k:Nat} (hk:k+smk mk xs<=4611686018427387904)
  (hstep: ∀(i k':Nat),i<xs.length->nth (mkd mk m xs k) (i:Int)=m (nth xs (i:Int)) k'->k'+mk (nth xs (i:Int))<=4611686018427387904->f ((k':Int),(i:Int))=some (.nxt (((k'+mk (nth xs (i:Int)):Nat):Int),((i+1:Nat):Int))))
  (hend: ∀(k':Nat),f ((k':Int),(xs.length:Int))=some (.brk ((k':Int),(xs.length:Int)))) :
  ax f aW ((k:Int),0)=some (.brk (((k+smk mk xs:Nat):Int),(xs.length:Int))):=by
 have:=bq (f:=f) (fun i=>(((k+smk mk (xs.take i):Nat):Int),(i:Int))) xs.length (fun i hi=>by
  have hle:=Oz mk xs (i+1)
  rw[Ef mk hi] at hle
  rw[hstep i (k+smk mk (xs.take i)) hi (Xz mk m xs k hi) (by omega),Ef mk hi,Nat.add_assoc]) (hend _) (uh hN)
 simpa [smk] using this
end
end D
set_option synthInstance.maxSize 20000
set_option synthInstance.maxHeartbeats 2000000
namespace D
open Go.RowKit
theorem kX {α:Type} {xs:List α} {i:Nat} {x:α} (h:i<xs.length):aQ (xs.set i x) (i:Int)=some x:=by
 rw[aD (by rw[List.length_set];exact h)];simp
theorem Ly {n:Nat} :decide ((n:Int)<0)=false:=by simp only[decide_eq_false_iff_not];omega
def eK (x:Int):Nat:=1
def Be (x:Int) (k:Nat):Int:=((k:Nat):Int)
theorem OA (xs:List Int) (hx:Data.sm xs):smk eK xs<=1048576*1:=by
 obtain ⟨h1,h2⟩:=aH hx
 have b:=jr eK (B:=1) xs (fun x hx=>by
  simp[eK])
 exact Nat.le_trans b (Nat.mul_le_mul_right _ h1)
theorem OB (xs:List Int) (hx:Data.sm xs) {k:Nat} (hk:k+smk eK xs<=4611686018427387904):mr xs (k:Int)=some (((k+smk eK xs:Nat):Int),mkd eK Be xs k):=by
 obtain ⟨hN,hs⟩:=aH hx
 unfold mr
 rw[aw (Eg (f:=kP) xs eK Be (by omega) hk (fun ys i k hi hl he hk=>by
  have hz0:=hs _ (cy (xs:=xs) (i:=(i:Int)) (by omega) (by omega))
  unfold kP
  have hi':i<ys.length:=by omega
  generalize hz:nth xs (i:Int)=z at *
  have hk':k+(1)<=4611686018427387904:=hk
  simp only
  rw[if_pos (by simp;omega),aF (by omega) (by omega),he]
  simp only[aa,Int.toNat_natCast,kX hi',List.set_set,af (show i<9223372036854775807 by omega),af (show k<9223372036854775807 by omega)]
  have e:k+eK z=k+1:=by unfold eK;omega
  rw[e];rfl) (fun ys k hl=>by
  unfold kP
  simp only
  rw[if_neg (by simp;omega)]))]
theorem OC (xs:List Int) (hx:Data.sm xs) {k:Nat} (hk:k+smk eK xs<=4611686018427387904):mu (mkd eK Be xs k) (k:Int)=some ((k+smk eK xs:Nat):Int):=by
 obtain ⟨hN,hs⟩:=aH hx
 unfold mu
 rw[aw (Eh (f:=kR _) xs eK Be (by omega) hk (fun i k' hi he hk=>by
  have hz0:=hs _ (cy (xs:=xs) (i:=(i:Int)) (by omega) (by omega))
  unfold kR
  generalize hz:nth xs (i:Int)=z at *
  have hk':k'+(1)<=4611686018427387904:=hk
  simp only
  rw[if_pos (by simp[bh];omega),aF (by omega) (by rw[bh];omega),he]
  simp only[Be,aa,bne_self_eq_false,Bool.false_eq_true,if_false,Ly,af (show i<9223372036854775807 by omega),af (show k'<9223372036854775807 by omega)]
  have e:k'+eK z=k'+1:=by unfold eK;omega
  rw[e]) (fun k'=>by
  unfold kR
  simp only
  rw[if_neg (by simp[bh])]))]
def fh (x:Int×Int×Int×Int):Nat:=1+1+1+1
def xx (x:Int×Int×Int×Int) (k:Nat):Int×Int×Int×Int:=(((k:Nat):Int),((k+1:Nat):Int),((k+1+1:Nat):Int),((k+1+1+1:Nat):Int))
theorem RM (xs:List Yq4) (hx:Data.sm xs):smk fh xs<=1048576*4:=by
 obtain ⟨h1,h2⟩:=aH hx
 have b:=jr fh (B:=4) xs (fun x hx=>by
  simp[fh])
 exact Nat.le_trans b (Nat.mul_le_mul_right _ h1)
theorem RN (xs:List Yq4) (hx:Data.sm xs) {k:Nat} (hk:k+smk fh xs<=4611686018427387904):mZ xs (k:Int)=some (((k+smk fh xs:Nat):Int),mkd fh xx xs k):=by
 obtain ⟨hN,hs⟩:=aH hx
 unfold mZ
 rw[aw (Eg (f:=jD) xs fh xx (by omega) hk (fun ys i k hi hl he hk=>by
  have hz0:=hs _ (cy (xs:=xs) (i:=(i:Int)) (by omega) (by omega))
  unfold jD
  have hi':i<ys.length:=by omega
  generalize hz:nth xs (i:Int)=z at *
  have hk':k+(1+1+1+1)<=4611686018427387904:=hk
  simp only
  rw[if_pos (by simp;omega),aF (by omega) (by omega),he]
  simp only[aa,Int.toNat_natCast,kX hi',List.set_set,af (show i<9223372036854775807 by omega),af (show k<9223372036854775807 by omega),af (show k+1<9223372036854775807 by omega),af (show k+1+1<9223372036854775807 by omega),af (show k+1+1+1<9223372036854775807 by omega)]
  have e:k+fh z=k+1+1+1+1:=by unfold fh;omega
  rw[e];rfl) (fun ys k hl=>by
  unfold jD
  simp only
  rw[if_neg (by simp;omega)]))]
theorem RO (xs:List Yq4) (hx:Data.sm xs) {k:Nat} (hk:k+smk fh xs<=4611686018427387904):nf (mkd fh xx xs k) (k:Int)=some ((k+smk fh xs:Nat):Int):=by
 obtain ⟨hN,hs⟩:=aH hx
 unfold nf
 rw[aw (Eh (f:=jH _) xs fh xx (by omega) hk (fun i k' hi he hk=>by
  have hz0:=hs _ (cy (xs:=xs) (i:=(i:Int)) (by omega) (by omega))
  unfold jH
  generalize hz:nth xs (i:Int)=z at *
  have hk':k'+(1+1+1+1)<=4611686018427387904:=hk
  simp only
  rw[if_pos (by simp[bh];omega),aF (by omega) (by rw[bh];omega),he]
  simp only[xx,aa,bne_self_eq_false,Bool.false_eq_true,if_false,Ly,af (show i<9223372036854775807 by omega),af (show k'<9223372036854775807 by omega),af (show k'+1<9223372036854775807 by omega),af (show k'+1+1<9223372036854775807 by omega),af (show k'+1+1+1<9223372036854775807 by omega)]
  have e:k'+fh z=k'+1+1+1+1:=by unfold fh;omega
  rw[e]) (fun k'=>by
  unfold jH
  simp only
  rw[if_neg (by simp[bh])]))]
def dO (x:(List Int)×Yq1):Nat:=smk eK (x.1)+smk fh (x.2)
def tn (x:(List Int)×Yq1) (k:Nat):(List Int)×Yq1:=(mkd eK Be (x.1) (k),mkd fh xx (x.2) (k+smk eK (x.1)))
theorem OD (xs:List EN) (hx:Data.sm xs):smk dO xs<=1048576*5242880:=by
 obtain ⟨h1,h2⟩:=aH hx
 have b:=jr dO (B:=5242880) xs (fun x hx=>by
  have hs:=h2 x hx
  have q0:=OA (x.1) hs.1
  have q1:=RM (x.2) hs.2
  unfold dO;omega)
 exact Nat.le_trans b (Nat.mul_le_mul_right _ h1)
theorem OE (xs:List EN) (hx:Data.sm xs) {k:Nat} (hk:k+smk dO xs<=4611686018427387904):l7 xs (k:Int)=some (((k+smk dO xs:Nat):Int),mkd dO tn xs k):=by
 obtain ⟨hN,hs⟩:=aH hx
 unfold l7
 rw[aw (Eg (f:=iS) xs dO tn (by omega) hk (fun ys i k hi hl he hk=>by
  have hz0:=hs _ (cy (xs:=xs) (i:=(i:Int)) (by omega) (by omega))
  unfold iS
  have hi':i<ys.length:=by omega
  generalize hz:nth xs (i:Int)=z at *
  have hk':k+(smk eK (z.1)+smk fh (z.2))<=4611686018427387904:=hk
  have m0:=OB (z.1) hz0.1 (k:=k) (by omega)
  have m1:=RN (z.2) hz0.2 (k:=k+smk eK (z.1)) (by omega)
  simp only
  rw[if_pos (by simp;omega),aF (by omega) (by omega),he]
  simp only[aa,Int.toNat_natCast,kX hi',List.set_set,af (show i<9223372036854775807 by omega),m0,m1]
  have e:k+dO z=k+smk eK (z.1)+smk fh (z.2):=by unfold dO;omega
  rw[e];rfl) (fun ys k hl=>by
  unfold iS
  simp only
  rw[if_neg (by simp;omega)]))]
theorem OF (xs:List EN) (hx:Data.sm xs) {k:Nat} (hk:k+smk dO xs<=4611686018427387904):l9 (mkd dO tn xs k) (k:Int)=some ((k+smk dO xs:Nat):Int):=by
 obtain ⟨hN,hs⟩:=aH hx
 unfold l9
 rw[aw (Eh (f:=iU _) xs dO tn (by omega) hk (fun i k' hi he hk=>by
  have hz0:=hs _ (cy (xs:=xs) (i:=(i:Int)) (by omega) (by omega))
  unfold iU
  generalize hz:nth xs (i:Int)=z at *
  have hk':k'+(smk eK (z.1)+smk fh (z.2))<=4611686018427387904:=hk
  have m0:=OC (z.1) hz0.1 (k:=k') (by omega)
  have m1:=RO (z.2) hz0.2 (k:=k'+smk eK (z.1)) (by omega)
  simp only
  rw[if_pos (by simp[bh];omega),aF (by omega) (by rw[bh];omega),he]
  simp only[tn,aa,bne_self_eq_false,Bool.false_eq_true,if_false,Ly,af (show i<9223372036854775807 by omega),m0,m1]
  have e:k'+dO z=k'+smk eK (z.1)+smk fh (z.2):=by unfold dO;omega
  rw[e]) (fun k'=>by
  unfold iU
  simp only
  rw[if_neg (by simp[bh])]))]
def dP (x:Bool):Nat:=1
def xy (x:Bool) (k:Nat):Bool:=((Int.tmod ((k:Nat):Int) 3)==0)
theorem RP (xs:List Bool) (hx:Data.sm xs):smk dP xs<=1048576*1:=by
 obtain ⟨h1,h2⟩:=aH hx
 have b:=jr dP (B:=1) xs (fun x hx=>by
  simp[dP])
 exact Nat.le_trans b (Nat.mul_le_mul_right _ h1)
theorem RQ (xs:List Bool) (hx:Data.sm xs) {k:Nat} (hk:k+smk dP xs<=4611686018427387904):na xs (k:Int)=some (((k+smk dP xs:Nat):Int),mkd dP xy xs k):=by
 obtain ⟨hN,hs⟩:=aH hx
 unfold na
 rw[aw (Eg (f:=jE) xs dP xy (by omega) hk (fun ys i k hi hl he hk=>by
  have hz0:=hs _ (cy (xs:=xs) (i:=(i:Int)) (by omega) (by omega))
  unfold jE
  have hi':i<ys.length:=by omega
  generalize hz:nth xs (i:Int)=z at *
  have hk':k+(1)<=4611686018427387904:=hk
  simp only
  rw[if_pos (by simp;omega),aF (by omega) (by omega),he]
  simp only[aa,Int.toNat_natCast,kX hi',List.set_set,af (show i<9223372036854775807 by omega),af (show k<9223372036854775807 by omega)]
  have e:k+dP z=k+1:=by unfold dP;omega
  rw[e];rfl) (fun ys k hl=>by
  unfold jE
  simp only
  rw[if_neg (by simp;omega)]))]
theorem RR (xs:List Bool) (hx:Data.sm xs) {k:Nat} (hk:k+smk dP xs<=4611686018427387904):ng (mkd dP xy xs k) (k:Int)=some ((k+smk dP xs:Nat):Int):=by
 obtain ⟨hN,hs⟩:=aH hx
 unfold ng
 rw[aw (Eh (f:=jI _) xs dP xy (by omega) hk (fun i k' hi he hk=>by
  have hz0:=hs _ (cy (xs:=xs) (i:=(i:Int)) (by omega) (by omega))
  unfold jI
  generalize hz:nth xs (i:Int)=z at *
  have hk':k'+(1)<=4611686018427387904:=hk
  simp only
  rw[if_pos (by simp[bh];omega),aF (by omega) (by rw[bh];omega),he]
  simp only[xy,aa,bne_self_eq_false,Bool.false_eq_true,if_false,Ly,af (show i<9223372036854775807 by omega),af (show k'<9223372036854775807 by omega)]
  have e:k'+dP z=k'+1:=by unfold dP;omega
  rw[e]) (fun k'=>by
  unfold jI
  simp only
  rw[if_neg (by simp[bh])]))]
def fj (x:List Int):Nat:=smk eK (x)
def xz (x:List Int) (k:Nat):List Int:=mkd eK Be x k
theorem RS (xs:List (List Int)) (hx:Data.sm xs):smk fj xs<=1048576*1048576:=by
 obtain ⟨h1,h2⟩:=aH hx
 have b:=jr fj (B:=1048576) xs (fun x hx=>by
  have hs:=h2 x hx
  have q0:=OA (x) hs
  unfold fj;omega)
 exact Nat.le_trans b (Nat.mul_le_mul_right _ h1)
theorem RT (xs:List (List Int)) (hx:Data.sm xs) {k:Nat} (hk:k+smk fj xs<=4611686018427387904):nc xs (k:Int)=some (((k+smk fj xs:Nat):Int),mkd fj xz xs k):=by
 obtain ⟨hN,hs⟩:=aH hx
 unfold nc
 rw[aw (Eg (f:=jF) xs fj xz (by omega) hk (fun ys i k hi hl he hk=>by
  have hz0:=hs _ (cy (xs:=xs) (i:=(i:Int)) (by omega) (by omega))
  unfold jF
  have hi':i<ys.length:=by omega
  generalize hz:nth xs (i:Int)=z at *
  have hk':k+(smk eK (z))<=4611686018427387904:=hk
  have m0:=OB (z) hz0 (k:=k) (by omega)
  simp only
  rw[if_pos (by simp;omega),aF (by omega) (by omega),he]
  simp only[aa,Int.toNat_natCast,kX hi',List.set_set,af (show i<9223372036854775807 by omega),m0]
  have e:k+fj z=k+smk eK (z):=by unfold fj;omega
  rw[e];rfl) (fun ys k hl=>by
  unfold jF
  simp only
  rw[if_neg (by simp;omega)]))]
theorem RU (xs:List (List Int)) (hx:Data.sm xs) {k:Nat} (hk:k+smk fj xs<=4611686018427387904):nh (mkd fj xz xs k) (k:Int)=some ((k+smk fj xs:Nat):Int):=by
 obtain ⟨hN,hs⟩:=aH hx
 unfold nh
 rw[aw (Eh (f:=jJ _) xs fj xz (by omega) hk (fun i k' hi he hk=>by
  have hz0:=hs _ (cy (xs:=xs) (i:=(i:Int)) (by omega) (by omega))
  unfold jJ
  generalize hz:nth xs (i:Int)=z at *
  have hk':k'+(smk eK (z))<=4611686018427387904:=hk
  have m0:=OC (z) hz0 (k:=k') (by omega)
  simp only
  rw[if_pos (by simp[bh];omega),aF (by omega) (by rw[bh];omega),he]
  simp only[xz,aa,bne_self_eq_false,Bool.false_eq_true,if_false,Ly,af (show i<9223372036854775807 by omega),m0]
  have e:k'+fj z=k'+smk eK (z):=by unfold fj;omega
  rw[e]) (fun k'=>by
  unfold jJ
  simp only
  rw[if_neg (by simp[bh])]))]
def bz (x:Int×(List Bool)×(List (List Int))):Nat:=1+smk dP (x.2.1)+smk fj (x.2.2)
def kc (x:Int×(List Bool)×(List (List Int))) (k:Nat):Int×(List Bool)×(List (List Int)):=(((k:Nat):Int),mkd dP xy (x.2.1) (k+1),mkd fj xz (x.2.2) (k+1+smk dP (x.2.1)))
theorem Ei (xs:List Yq2) (hx:Data.sm xs):smk bz xs<=1048576*1099512676353:=by
 obtain ⟨h1,h2⟩:=aH hx
 have b:=jr bz (B:=1099512676353) xs (fun x hx=>by
  have hs:=h2 x hx
  have q0:=RP (x.2.1) hs.2.1
  have q1:=RS (x.2.2) hs.2.2
  unfold bz;omega)
 exact Nat.le_trans b (Nat.mul_le_mul_right _ h1)
theorem Ej (xs:List Yq2) (hx:Data.sm xs) {k:Nat} (hk:k+smk bz xs<=4611686018427387904):gR xs (k:Int)=some (((k+smk bz xs:Nat):Int),mkd bz kc xs k):=by
 obtain ⟨hN,hs⟩:=aH hx
 unfold gR
 rw[aw (Eg (f:=e8) xs bz kc (by omega) hk (fun ys i k hi hl he hk=>by
  have hz0:=hs _ (cy (xs:=xs) (i:=(i:Int)) (by omega) (by omega))
  unfold e8
  have hi':i<ys.length:=by omega
  generalize hz:nth xs (i:Int)=z at *
  have hk':k+(1+smk dP (z.2.1)+smk fj (z.2.2))<=4611686018427387904:=hk
  have m0:=RQ (z.2.1) hz0.2.1 (k:=k+1) (by omega)
  have m1:=RT (z.2.2) hz0.2.2 (k:=k+1+smk dP (z.2.1)) (by omega)
  simp only
  rw[if_pos (by simp;omega),aF (by omega) (by omega),he]
  simp only[aa,Int.toNat_natCast,kX hi',List.set_set,af (show i<9223372036854775807 by omega),af (show k<9223372036854775807 by omega),m0,m1]
  have e:k+bz z=k+1+smk dP (z.2.1)+smk fj (z.2.2):=by unfold bz;omega
  rw[e];rfl) (fun ys k hl=>by
  unfold e8
  simp only
  rw[if_neg (by simp;omega)]))]
theorem Ek (xs:List Yq2) (hx:Data.sm xs) {k:Nat} (hk:k+smk bz xs<=4611686018427387904):gS (mkd bz kc xs k) (k:Int)=some ((k+smk bz xs:Nat):Int):=by
 obtain ⟨hN,hs⟩:=aH hx
 unfold gS
 rw[aw (Eh (f:=fa _) xs bz kc (by omega) hk (fun i k' hi he hk=>by
  have hz0:=hs _ (cy (xs:=xs) (i:=(i:Int)) (by omega) (by omega))
  unfold fa
  generalize hz:nth xs (i:Int)=z at *
  have hk':k'+(1+smk dP (z.2.1)+smk fj (z.2.2))<=4611686018427387904:=hk
  have m0:=RR (z.2.1) hz0.2.1 (k:=k'+1) (by omega)
  have m1:=RU (z.2.2) hz0.2.2 (k:=k'+1+smk dP (z.2.1)) (by omega)
  simp only
  rw[if_pos (by simp[bh];omega),aF (by omega) (by rw[bh];omega),he]
  simp only[kc,aa,bne_self_eq_false,Bool.false_eq_true,if_false,Ly,af (show i<9223372036854775807 by omega),af (show k'<9223372036854775807 by omega),m0,m1]
  have e:k'+bz z=k'+1+smk dP (z.2.1)+smk fj (z.2.2):=by unfold bz;omega
  rw[e]) (fun k'=>by
  unfold fa
  simp only
  rw[if_neg (by simp[bh])]))]
def cN (x:Int×Int×Int×Int):Nat:=1+1+1+1
def tq (x:Int×Int×Int×Int) (k:Nat):Int×Int×Int×Int:=(((k:Nat):Int),((k+1:Nat):Int),((k+1+1:Nat):Int),((k+1+1+1:Nat):Int))
theorem OG (xs:List Yq4) (hx:Data.sm xs):smk cN xs<=1048576*4:=by
 obtain ⟨h1,h2⟩:=aH hx
 have b:=jr cN (B:=4) xs (fun x hx=>by
  simp[cN])
 exact Nat.le_trans b (Nat.mul_le_mul_right _ h1)
theorem OH (xs:List Yq4) (hx:Data.sm xs) {k:Nat} (hk:k+smk cN xs<=4611686018427387904):l8 xs (k:Int)=some (((k+smk cN xs:Nat):Int),mkd cN tq xs k):=by
 obtain ⟨hN,hs⟩:=aH hx
 unfold l8
 rw[aw (Eg (f:=iT) xs cN tq (by omega) hk (fun ys i k hi hl he hk=>by
  have hz0:=hs _ (cy (xs:=xs) (i:=(i:Int)) (by omega) (by omega))
  unfold iT
  have hi':i<ys.length:=by omega
  generalize hz:nth xs (i:Int)=z at *
  have hk':k+(1+1+1+1)<=4611686018427387904:=hk
  simp only
  rw[if_pos (by simp;omega),aF (by omega) (by omega),he]
  simp only[aa,Int.toNat_natCast,kX hi',List.set_set,af (show i<9223372036854775807 by omega),af (show k<9223372036854775807 by omega),af (show k+1<9223372036854775807 by omega),af (show k+1+1<9223372036854775807 by omega),af (show k+1+1+1<9223372036854775807 by omega)]
  have e:k+cN z=k+1+1+1+1:=by unfold cN;omega
  rw[e];rfl) (fun ys k hl=>by
  unfold iT
  simp only
  rw[if_neg (by simp;omega)]))]
theorem OI (xs:List Yq4) (hx:Data.sm xs) {k:Nat} (hk:k+smk cN xs<=4611686018427387904):ma (mkd cN tq xs k) (k:Int)=some ((k+smk cN xs:Nat):Int):=by
 obtain ⟨hN,hs⟩:=aH hx
 unfold ma
 rw[aw (Eh (f:=iV _) xs cN tq (by omega) hk (fun i k' hi he hk=>by
  have hz0:=hs _ (cy (xs:=xs) (i:=(i:Int)) (by omega) (by omega))
  unfold iV
  generalize hz:nth xs (i:Int)=z at *
  have hk':k'+(1+1+1+1)<=4611686018427387904:=hk
  simp only
  rw[if_pos (by simp[bh];omega),aF (by omega) (by rw[bh];omega),he]
  simp only[tq,aa,bne_self_eq_false,Bool.false_eq_true,if_false,Ly,af (show i<9223372036854775807 by omega),af (show k'<9223372036854775807 by omega),af (show k'+1<9223372036854775807 by omega),af (show k'+1+1<9223372036854775807 by omega),af (show k'+1+1+1<9223372036854775807 by omega)]
  have e:k'+cN z=k'+1+1+1+1:=by unfold cN;omega
  rw[e]) (fun k'=>by
  unfold iV
  simp only
  rw[if_neg (by simp[bh])]))]
def bA (x:Int×(Yq1)×Int):Nat:=1+smk cN (x.2.1)+1
def iX (x:Int×(Yq1)×Int) (k:Nat):Int×(Yq1)×Int:=(((k:Nat):Int),mkd cN tq (x.2.1) (k+1),((k+1+smk cN (x.2.1):Nat):Int))
theorem B4 (xs:List Yq9) (hx:Data.sm xs):smk bA xs<=1048576*4194306:=by
 obtain ⟨h1,h2⟩:=aH hx
 have b:=jr bA (B:=4194306) xs (fun x hx=>by
  have hs:=h2 x hx
  have q0:=OG (x.2.1) hs.2.1
  unfold bA;omega)
 exact Nat.le_trans b (Nat.mul_le_mul_right _ h1)
theorem B5 (xs:List Yq9) (hx:Data.sm xs) {k:Nat} (hk:k+smk bA xs<=4611686018427387904):gp xs (k:Int)=some (((k+smk bA xs:Nat):Int),mkd bA iX xs k):=by
 obtain ⟨hN,hs⟩:=aH hx
 unfold gp
 rw[aw (Eg (f:=eE) xs bA iX (by omega) hk (fun ys i k hi hl he hk=>by
  have hz0:=hs _ (cy (xs:=xs) (i:=(i:Int)) (by omega) (by omega))
  unfold eE
  have hi':i<ys.length:=by omega
  generalize hz:nth xs (i:Int)=z at *
  have hk':k+(1+smk cN (z.2.1)+1)<=4611686018427387904:=hk
  have m0:=OH (z.2.1) hz0.2.1 (k:=k+1) (by omega)
  simp only
  rw[if_pos (by simp;omega),aF (by omega) (by omega),he]
  simp only[aa,Int.toNat_natCast,kX hi',List.set_set,af (show i<9223372036854775807 by omega),af (show k<9223372036854775807 by omega),af (show k+1+smk cN (z.2.1)<9223372036854775807 by omega),m0]
  have e:k+bA z=k+1+smk cN (z.2.1)+1:=by unfold bA;omega
  rw[e];rfl) (fun ys k hl=>by
  unfold eE
  simp only
  rw[if_neg (by simp;omega)]))]
theorem B6 (xs:List Yq9) (hx:Data.sm xs) {k:Nat} (hk:k+smk bA xs<=4611686018427387904):gr (mkd bA iX xs k) (k:Int)=some ((k+smk bA xs:Nat):Int):=by
 obtain ⟨hN,hs⟩:=aH hx
 unfold gr
 rw[aw (Eh (f:=eG _) xs bA iX (by omega) hk (fun i k' hi he hk=>by
  have hz0:=hs _ (cy (xs:=xs) (i:=(i:Int)) (by omega) (by omega))
  unfold eG
  generalize hz:nth xs (i:Int)=z at *
  have hk':k'+(1+smk cN (z.2.1)+1)<=4611686018427387904:=hk
  have m0:=OI (z.2.1) hz0.2.1 (k:=k'+1) (by omega)
  simp only
  rw[if_pos (by simp[bh];omega),aF (by omega) (by rw[bh];omega),he]
  simp only[iX,aa,bne_self_eq_false,Bool.false_eq_true,if_false,Ly,af (show i<9223372036854775807 by omega),af (show k'<9223372036854775807 by omega),af (show k'+1+smk cN (z.2.1)<9223372036854775807 by omega),m0]
  have e:k'+bA z=k'+1+smk cN (z.2.1)+1:=by unfold bA;omega
  rw[e]) (fun k'=>by
  unfold eG
  simp only
  rw[if_neg (by simp[bh])]))]
def bB (x:Int×Int×Int):Nat:=1+1+1
def iY (x:Int×Int×Int) (k:Nat):Int×Int×Int:=(((k:Nat):Int),((k+1:Nat):Int),((k+1+1:Nat):Int))
theorem B7 (xs:List Yq7) (hx:Data.sm xs):smk bB xs<=1048576*3:=by
 obtain ⟨h1,h2⟩:=aH hx
 have b:=jr bB (B:=3) xs (fun x hx=>by
  simp[bB])
 exact Nat.le_trans b (Nat.mul_le_mul_right _ h1)
theorem B8 (xs:List Yq7) (hx:Data.sm xs) {k:Nat} (hk:k+smk bB xs<=4611686018427387904):gq xs (k:Int)=some (((k+smk bB xs:Nat):Int),mkd bB iY xs k):=by
 obtain ⟨hN,hs⟩:=aH hx
 unfold gq
 rw[aw (Eg (f:=eF) xs bB iY (by omega) hk (fun ys i k hi hl he hk=>by
  have hz0:=hs _ (cy (xs:=xs) (i:=(i:Int)) (by omega) (by omega))
  unfold eF
  have hi':i<ys.length:=by omega
  generalize hz:nth xs (i:Int)=z at *
  have hk':k+(1+1+1)<=4611686018427387904:=hk
  simp only
  rw[if_pos (by simp;omega),aF (by omega) (by omega),he]
  simp only[aa,Int.toNat_natCast,kX hi',List.set_set,af (show i<9223372036854775807 by omega),af (show k<9223372036854775807 by omega),af (show k+1<9223372036854775807 by omega),af (show k+1+1<9223372036854775807 by omega)]
  have e:k+bB z=k+1+1+1:=by unfold bB;omega
  rw[e];rfl) (fun ys k hl=>by
  unfold eF
  simp only
  rw[if_neg (by simp;omega)]))]
theorem B9 (xs:List Yq7) (hx:Data.sm xs) {k:Nat} (hk:k+smk bB xs<=4611686018427387904):gu (mkd bB iY xs k) (k:Int)=some ((k+smk bB xs:Nat):Int):=by
 obtain ⟨hN,hs⟩:=aH hx
 unfold gu
 rw[aw (Eh (f:=eH _) xs bB iY (by omega) hk (fun i k' hi he hk=>by
  have hz0:=hs _ (cy (xs:=xs) (i:=(i:Int)) (by omega) (by omega))
  unfold eH
  generalize hz:nth xs (i:Int)=z at *
  have hk':k'+(1+1+1)<=4611686018427387904:=hk
  simp only
  rw[if_pos (by simp[bh];omega),aF (by omega) (by rw[bh];omega),he]
  simp only[iY,aa,bne_self_eq_false,Bool.false_eq_true,if_false,Ly,af (show i<9223372036854775807 by omega),af (show k'<9223372036854775807 by omega),af (show k'+1<9223372036854775807 by omega),af (show k'+1+1<9223372036854775807 by omega)]
  have e:k'+bB z=k'+1+1+1:=by unfold bB;omega
  rw[e]) (fun k'=>by
  unfold eH
  simp only
  rw[if_neg (by simp[bh])]))]
def cz (x:Int×Yq5):Nat:=smk dO (x.2)
def wv (x:Int×Yq5) (k:Nat):Int×Yq5:=(x.1,mkd dO tn (x.2) (k))
theorem Lz (x:Int×Yq5) (hx:Data.sm x):cz x<=5497558138880:=by
 have q0:=OD (x.2) hx.2
 unfold cz;omega
theorem LA (x:Int×Yq5) (hx:Data.sm x) {k:Nat} (hk:k+cz x<=4611686018427387904):kQ x (k:Int)=some (((k+cz x:Nat):Int),wv x k):=by
 unfold cz at hk
 have m0:=OE (x.2) hx.2 (k:=k) (by omega)
 unfold kQ
 simp only[dN,aa,m0]
 have e:k+cz x=k+smk dO (x.2):=by unfold cz;omega
 rw[e];rfl
theorem LB (x:Int×Yq5) (hx:Data.sm x) {k:Nat} (hk:k+cz x<=4611686018427387904):kS (wv x k) (k:Int)=some ((k+cz x:Nat):Int):=by
 unfold cz at hk
 have m0:=OF (x.2) hx.2 (k:=k) (by omega)
 unfold kS wv
 simp only[dN,aa,Bool.false_eq_true,if_false,Ly,m0]
 have e:k+cz x=k+smk dO (x.2):=by unfold cz;omega
 rw[e]
def cv (x:(List Yq2)×Yq3):Nat:=smk bz (x.1)+smk bA (x.2)
def tu (x:(List Yq2)×Yq3) (k:Nat):(List Yq2)×Yq3:=(mkd bz kc (x.1) (k),mkd bA iX (x.2) (k+smk bz (x.1)))
theorem Iz (x:(List Yq2)×Yq3) (hx:Data.sm x):cv x<=1152927002168131584:=by
 have q0:=Ei (x.1) hx.1
 have q1:=B4 (x.2) hx.2
 unfold cv;omega
theorem IA (x:(List Yq2)×Yq3) (hx:Data.sm x) {k:Nat} (hk:k+cv x<=4611686018427387904):jG x (k:Int)=some (((k+cv x:Nat):Int),tu x k):=by
 unfold cv at hk
 have m0:=Ej (x.1) hx.1 (k:=k) (by omega)
 have m1:=B5 (x.2) hx.2 (k:=k+smk bz (x.1)) (by omega)
 unfold jG
 simp only[dN,aa,m0,m1]
 have e:k+cv x=k+smk bz (x.1)+smk bA (x.2):=by unfold cv;omega
 rw[e];rfl
theorem IB (x:(List Yq2)×Yq3) (hx:Data.sm x) {k:Nat} (hk:k+cv x<=4611686018427387904):jK (tu x k) (k:Int)=some ((k+cv x:Nat):Int):=by
 unfold cv at hk
 have m0:=Ek (x.1) hx.1 (k:=k) (by omega)
 have m1:=B6 (x.2) hx.2 (k:=k+smk bz (x.1)) (by omega)
 unfold jK tu
 simp only[dN,aa,Bool.false_eq_true,if_false,Ly,m0,m1]
 have e:k+cv x=k+smk bz (x.1)+smk bA (x.2):=by unfold cv;omega
 rw[e]
def jM (x:(Int×Yq5)×Yq8×(List Yq7)×ByteArray):Nat:=cz (x.1)+cv (x.2.1)+smk bB (x.2.2.1)
def tv (x:(Int×Yq5)×Yq8×(List Yq7)×ByteArray) (k:Nat):(Int×Yq5)×Yq8×(List Yq7)×ByteArray:=(wv (x.1) (k),tu (x.2.1) (k+cz (x.1)),mkd bB iY (x.2.2.1) (k+cz (x.1)+cv (x.2.1)),x.2.2.2)
theorem GK (x:(Int×Yq5)×Yq8×(List Yq7)×ByteArray) (hx:Data.sm x):jM x<=1152932499729416192:=by
 have q0:=Lz (x.1) hx.1
 have q1:=Iz (x.2.1) hx.2.1
 have q2:=B7 (x.2.2.1) hx.2.2.1
 unfold jM;omega
theorem GL (x:(Int×Yq5)×Yq8×(List Yq7)×ByteArray) (hx:Data.sm x) {k:Nat} (hk:k+jM x<=4611686018427387904):fg x (k:Int)=some (((k+jM x:Nat):Int),tv x k):=by
 unfold jM at hk
 have m0:=LA (x.1) hx.1 (k:=k) (by omega)
 have m1:=IA (x.2.1) hx.2.1 (k:=k+cz (x.1)) (by omega)
 have m2:=B8 (x.2.2.1) hx.2.2.1 (k:=k+cz (x.1)+cv (x.2.1)) (by omega)
 unfold fg
 simp only[dN,aa,m0,m1,m2]
 have e:k+jM x=k+cz (x.1)+cv (x.2.1)+smk bB (x.2.2.1):=by unfold jM;omega
 rw[e];rfl
theorem OJ (x:(Int×Yq5)×Yq8×(List Yq7)×ByteArray) (hx:Data.sm x) {k:Nat} (hk:k+jM x<=4611686018427387904):gK (tv x k) (k:Int)=some ((k+jM x:Nat):Int):=by
 unfold jM at hk
 have m0:=LB (x.1) hx.1 (k:=k) (by omega)
 have m1:=IB (x.2.1) hx.2.1 (k:=k+cz (x.1)) (by omega)
 have m2:=B9 (x.2.2.1) hx.2.2.1 (k:=k+cz (x.1)+cv (x.2.1)) (by omega)
 unfold gK tv
 simp only[dN,aa,Bool.false_eq_true,if_false,Ly,m0,m1,m2]
 have e:k+jM x=k+cz (x.1)+cv (x.2.1)+smk bB (x.2.2.1):=by unfold jM;omega
 rw[e]
end D
namespace D
abbrev Pr:=Int×Int
def ltP (a b:Pr):Prop:=a.1<b.1\/a.1=b.1/\a.2<b.2
instance (a b:Pr):Decidable (ltP a b):=inferInstanceAs (Decidable (_\/_))
end D
namespace D
open Go.RowKit
theorem VP {α R:Type} {f:Int->Option (Out R Int)} (l:List α) (b:α->Bool) (r:Nat->R) (hN:l.length<=9223372036854775807) (h: ∀i (hi:i<l.length),f (i:Int)=some (if b l[i] then .ret (r i) else .nxt ((i+1:Nat):Int))) (he:f (l.length:Int)=some (.brk (l.length:Int))) :
  (∃(i:Nat) (hi:i<l.length),b l[i] =true/\(∀j (hj:j<i),b (l[j]'(by omega))=false)/\ax f aW 0=some (.ret (r i)))\/((∀x,x∈l->b x=false)/\ax f aW 0=some (.brk (l.length:Int))):=by
 obtain ⟨o,e,hQ⟩:=da (f:=f) (fun i s=>s=(i:Int)/\ ∀j (hj:j<l.length),j<i->b l[j] =false) (fun o=>(∃(i:Nat) (hi:i<l.length),b l[i] =true/\(∀j (hj:j<i),b (l[j]'(by omega))=false)/\o= .ret (r i))\/((∀x,x∈l->b x=false)/\o= .brk (l.length:Int))) l.length (fun i s hi hI=>by
  obtain ⟨rfl,hI⟩:=hI
  by_cases h1:i<l.length
  ·cases hb:b l[i] with
   | true=>exact .inr ⟨_,by rw[h i h1,hb,if_pos rfl],fun s' hh=>by simp at hh,.inl ⟨i,h1,hb,fun j hj=>hI j (by omega) hj,by simp⟩⟩
   | false=>exact .inl ⟨h1,_,by rw[h i h1,hb,if_neg (by simp)],rfl,fun j hj hji=>by
     by_cases c:j=i
     ·subst c;exact hb
     ·exact hI j hj (by omega)⟩
  ·obtain rfl:i=l.length:=by omega
   exact .inr ⟨_,he,fun s' hh=>by simp at hh,.inr ⟨fun x hx=>by
    obtain ⟨j,hj,rfl⟩:=List.getElem_of_mem hx
    exact hI j hj hj,rfl⟩⟩) (s:=0) ⟨rfl,fun j hj h0=>by omega⟩ (dD _ hN)
 rcases hQ with ⟨i,hi,h1,h2,rfl⟩ | ⟨h1,rfl⟩
 ·exact .inl ⟨i,hi,h1,h2,e⟩
 ·exact .inr ⟨h1,e⟩
section
variable {l m:List Pr} {p:Pr}
end
end D
namespace D
open Go.RowKit
end D
set_option synthInstance.maxSize 20000
set_option synthInstance.maxHeartbeats 2000000
namespace D
open Go.RowKit
end D
set_option synthInstance.maxSize 20000
set_option synthInstance.maxHeartbeats 2000000
namespace D
open Go.RowKit
def mkB (l:List UInt8):ByteArray:=⟨l.toArray⟩
theorem VQ (a b:List UInt8):mkB a++mkB b=mkB (a++b):=ByteArray.ext (by simp[mkB])
theorem bS (a:List UInt8):(mkB a).size=a.length:=by simp[mkB,ByteArray.size]
theorem fe (a:List UInt8):(mkB a).data.toList=a:=by simp[mkB]
theorem El (a b:List UInt8) (h:a.length+b.length<=9223372036854775807):mD (mkB a) (mkB b)=some (mkB (a++b)):=by
 unfold mD chk
 rw[bS,bS,if_pos h,aa,VQ]
theorem ZW: ∀d:Fin 10,IntKind.u8.wrap (IntKind.i64.wrap (48+(d.val:Int)))=48+(d.val:Int):=by decide
theorem ZX {d:Nat} (h:d<10):xL [IntKind.u8.wrap (IntKind.i64.wrap (48+(d:Int)))] =mkB [UInt8.ofNat (48+d)]:=by
 rw[ZW ⟨d,h⟩]
 show ByteArray.empty.push (UInt8.ofNat (48+(d:Int)).toNat)=_
 rw[show (48+(d:Int)).toNat=48+d by omega];rfl
theorem ZY (m:Int):(if decide ((Int.tmod m 10)<0) then (some (IntKind.i64.wrap (-(Int.tmod m 10)))) else (some (Int.tmod m 10)):Option Int)=some ((m.natAbs % 10:Nat):Int):=by
 by_cases h:m<0
 ·obtain ⟨k,rfl⟩: ∃k:Nat,m= -(k:Int):=⟨m.natAbs,by omega⟩
  have e:Int.tmod (-(k:Int)) 10= -((k % 10:Nat):Int):=by rw[Int.neg_tmod];rfl
  rw[e,Int.natAbs_neg,Int.natAbs_natCast]
  by_cases h0:k % 10=0
  ·rw[h0];rfl
  ·rw[if_pos (decide_eq_true (by omega)),Int.neg_neg,fm (by omega) (by omega)]
 ·obtain ⟨k,rfl⟩: ∃k:Nat,m=(k:Int):=⟨m.natAbs,by omega⟩
  have e:Int.tmod (k:Int) 10=((k % 10:Nat):Int):=rfl
  rw[e,if_neg (by simp;omega),Int.natAbs_natCast]
theorem ZJ {m:Int} (h:I64 m):PQ m 10=m.tdiv 10/\(m.tdiv 10).natAbs=m.natAbs / 10:=by
 have k:(m.tdiv 10).natAbs=m.natAbs / 10:=Int.natAbs_tdiv m 10
 unfold I64 at h
 refine ⟨?_,k⟩
 unfold PQ
 exact fm (by omega) (by omega)
theorem VR {m:Int} {out:List UInt8} (h0:m≠0) (h:I64 m) (hl:out.length<=1000):dE (m,mkB out)=some (.nxt (m.tdiv 10,mkB (UInt8.ofNat (48+m.natAbs % 10)::out))):=by
 unfold dE
 simp only[]
 rw[if_pos (by simpa using h0),ZY,aa,ZX (Nat.mod_lt _ (by omega)),El _ _ (by simp;omega),aa,(ZJ h).1];rfl
theorem Ts (u:Nat):1<=Lib.nDigits u:=by
 by_cases h:u<10
 ·rw[Lib.nDigits_small h];omega
 ·rw[Lib.nDigits_big h];omega
theorem OK: ∀(k:Nat) (m:Int) (out:List UInt8),m≠0->I64 m->Lib.nDigits m.natAbs<=k->out.length+Lib.nDigits m.natAbs<=100->ax dE (k+1) (m,mkB out)=some (.brk (0,mkB (Lib.decDigits m.natAbs++out)))
 | 0,m,out,_,_,h,_=>by have:=Ts m.natAbs;omega
 | k+1,m,out,h0,hm,h,hl=>by
  rw[ax,VR h0 hm (by omega)]
  show ax dE (k+1) (m.tdiv 10,_)=_
  have hq:=(ZJ hm).2
  by_cases h1:m.natAbs<10
  ·have hz:m.tdiv 10=0:=by
    have:(m.tdiv 10).natAbs=0:=by rw[hq];omega
    omega
   rw[hz,ax]
   have:dE (0,mkB (UInt8.ofNat (48+m.natAbs % 10)::out))=some (.brk (0,mkB (UInt8.ofNat (48+m.natAbs % 10)::out))):=rfl
   rw[this,Lib.decDigits_one h1,Nat.mod_eq_of_lt h1];rfl
  ·have hz:m.tdiv 10≠0:=by
    intro e
    rw[e] at hq
    have:m.natAbs / 10=0:=by simpa using hq.symm
    omega
   have hn:=Lib.nDigits_big h1
   have hi:I64 (m.tdiv 10):=by unfold I64 at hm⊢;omega
   rw[OK k _ _ hz hi (by rw[hq];omega) (by rw[hq,ak];omega),hq]
   have:Lib.decDigits m.natAbs=Lib.decDigits (m.natAbs / 10)++ [UInt8.ofNat (48+m.natAbs % 10)]:=by rw[Lib.decDigits,dif_neg h1]
   rw[this,ai];rfl
theorem rj {n:Int} (h:I64 n):(Lib.itoa n).length<=21:=Lib.itoa_length_le n h.1 h.2
theorem Y1 {n:Int} (h:I64 n):Lib.nDigits n.natAbs<=21:=by
 have:=rj h
 unfold Lib.itoa at this
 split at this
 ·rw[ak,Lib.decDigits_length] at this;omega
 ·rw[Lib.decDigits_length] at this
  rw[show n.natAbs=n.toNat by omega];exact this
theorem tw {n:Int} (h:I64 n):b9 n=some (mkB (Lib.itoa n)):=by
 unfold b9
 by_cases h0:n=0
 ·subst h0
  rw[if_pos (by rfl:((0:Int)==0)=true)]
  have:Lib.itoa 0= [48]:=by unfold Lib.itoa;rw[if_neg (by decide)];exact Lib.decDigits_one (by decide)
  rw[this];rfl
 rw[if_neg (by simpa using h0)]
 have hn:=Y1 h
 have hf:=dD 100 (by omega)
 obtain ⟨k,hk⟩: ∃k,aW=k+1:=⟨aW - 1,by omega⟩
 have hL:ax dE aW (n,(⟨#[]⟩:ByteArray))=some (.brk (0,mkB (Lib.decDigits n.natAbs++ []))):=by
  rw[hk];exact OK k n [] h0 h (by omega) (by simp;omega)
 rw[aw hL,List.append_nil]
 have hd:(Lib.decDigits n.natAbs).length<=21:=by rw[Lib.decDigits_length];exact hn
 unfold Lib.itoa
 by_cases h1:n<0
 ·rw[if_pos (decide_eq_true h1),if_pos h1]
  show (mD (mkB [45]) _).bind _=_
  rw[El _ _ (by simp;omega)];rfl
 ·rw[if_neg (by simpa using h1),if_neg h1,show n.natAbs=n.toNat by omega]
theorem wx {n:Int} (h:I64 n):dm n=some (mkB (Lib.itoa n)):=by
 unfold dm mG R.RA chk
 rw[if_pos (show -9223372036854775808<=n/\n<=9223372036854775807 from h)];rfl
theorem OL (xs:List (List UInt8)) (y sep:List UInt8):Lib.join (xs++ [y]) sep=if xs= [] then y else Lib.join xs sep++sep++y:=by
 cases xs with
 | nil=>rw[if_pos rfl];exact Lib.join_one _ _
 | cons x r =>
  rw[if_neg (by simp),List.cons_append,Lib.join_cons,Lib.join_cons]
  simp[Lib.joinTail,ai]
end D
namespace D
open Go.RowKit
theorem Bf: ∀(a:List UInt8) (acc:Nat) (b:List UInt8),Lib.decFrom acc (a++b)=(Lib.decFrom acc a).bind fun m=>Lib.decFrom m b
 | [],acc,b=>rfl
 | x::a,acc,b=>by
  rw[List.cons_append,Lib.decFrom,Lib.decFrom]
  cases Lib.digitVal x with
  | none=>rfl
  | some d=>exact Bf a _ b
theorem OM {d:Nat} (h:d<10):Lib.digitVal (UInt8.ofNat (48+d))=some d:=by
 have e:(UInt8.ofNat (48+d)).toNat=48+d:=by simp;omega
 unfold Lib.digitVal
 rw[e,if_pos ⟨by omega,by omega⟩]
 congr 1;omega
theorem zh {u:Nat} (h: ¬u<10):Lib.decDigits u=Lib.decDigits (u / 10)++ [UInt8.ofNat (48+u % 10)]:=by rw[Lib.decDigits,dif_neg h]
theorem IC (u:Nat):Lib.decFrom 0 (Lib.decDigits u)=some u:=by
 induction u using Nat.strongRecOn with
 | _ u ih =>
  by_cases h:u<10
  ·rw[Lib.decDigits_one h,Lib.decFrom,OM h]
   simp[Lib.decFrom]
  ·rw[zh h,Bf,ih (u / 10) (by omega),aa,Lib.decFrom,OM (Nat.mod_lt _ (by omega))]
   simp only[Lib.decFrom]
   congr 1;omega
theorem XA (u:Nat):Lib.decDigits u≠ []:=fun h=>by
 have:=Lib.decDigits_length u
 rw[h] at this
 have:=Ts u
 simp at *;omega
theorem CW (u:Nat):Lib.decNat (Lib.decDigits u)=some u:=by
 unfold Lib.decNat
 rw[if_neg (by simpa using XA u),IC]
theorem J7 (u:Nat): ∃d r,d<10/\Lib.decDigits u=UInt8.ofNat (48+d)::r:=by
 induction u using Nat.strongRecOn with
 | _ u ih =>
  by_cases h:u<10
  ·exact ⟨u,[],h,Lib.decDigits_one h⟩
  ·obtain ⟨d,r,hd,e⟩:=ih (u / 10) (by omega)
   exact ⟨d,_,hd,by rw[zh h,e];rfl⟩
theorem ID {d:Nat} (h:d<10):(UInt8.ofNat (48+d)==45)=false/\(UInt8.ofNat (48+d)==43)=false:=by
 have: ∀d:Fin 10,(UInt8.ofNat (48+d.val)==45)=false/\(UInt8.ofNat (48+d.val)==43)=false:=by decide
 exact this ⟨d,h⟩
theorem ON (n:Int):Lib.atoi (Lib.itoa n)=some n:=by
 unfold Lib.itoa
 by_cases h:n<0
 ·rw[if_pos h]
  show (Lib.decNat (Lib.decDigits n.natAbs)).map (fun (m:Nat)=> -(m:Int))=_
  rw[CW]
  simp;omega
 ·rw[if_neg h]
  obtain ⟨d,r,hd,e⟩:=J7 n.toNat
  have k:=CW n.toNat
  rw[e] at k⊢
  show (if (UInt8.ofNat (48+d)==45)=true then _ else if (UInt8.ofNat (48+d)==43)=true then _ else _)=_
  rw[if_neg (by rw[(ID hd).1];decide),if_neg (by rw[(ID hd).2];decide),k]
  simp;omega
def dst (p:Nat×Nat) (b:UInt8):Nat×Nat:=if 48<=b.toNat/\b.toNat<=57 then (p.1*10+(b.toNat - 48),p.2+1) else p
theorem OO {d:Nat} (h:d<10) (p:Nat×Nat):dst p (UInt8.ofNat (48+d))=(p.1*10+d,p.2+1):=by
 have e:(UInt8.ofNat (48+d)).toNat=48+d:=by simp;omega
 unfold dst
 rw[e,if_pos ⟨by omega,by omega⟩,show 48+d - 48=d by omega]
theorem OP (u:Nat):(Lib.decDigits u).foldl dst (0,0)=(u,Lib.nDigits u):=by
 induction u using Nat.strongRecOn with
 | _ u ih =>
  by_cases h:u<10
  ·rw[Lib.decDigits_one h,List.foldl_cons,List.foldl_nil,OO h,Lib.nDigits_small h];simp
  ·rw[zh h,List.foldl_append,ih (u / 10) (by omega),List.foldl_cons,List.foldl_nil,OO (Nat.mod_lt _ (by omega)),Lib.nDigits_big h]
   congr 1
   show u / 10*10+u % 10=u
   omega
theorem RV (n:Int):(Lib.itoa n).foldl dst (0,0)=(n.natAbs,Lib.nDigits n.natAbs):=by
 unfold Lib.itoa
 split
 ·rw[List.foldl_cons,show dst (0,0) 45=(0,0) from rfl,OP]
 ·rw[OP,show n.toNat=n.natAbs by omega]
theorem Tt: ∀(l:List UInt8) (p:Nat×Nat),p.1<10 ^ p.2->(l.foldl dst p).1<10 ^ (l.foldl dst p).2
 | [],p,h=>h
 | b::l,p,h=>by
  rw[List.foldl_cons]
  refine Tt l _ ?_
  unfold dst
  split
  ·rename_i k
   show p.1*10+(b.toNat - 48)<10 ^ (p.2+1)
   rw[Nat.pow_succ];omega
  ·exact h
theorem Tu: ∀(l:List UInt8) (p:Nat×Nat),(l.foldl dst p).2<=p.2+l.length
 | [],p=>by simp
 | b::l,p=>by
  rw[List.foldl_cons]
  have:=Tu l (dst p b)
  have h:(dst p b).2<=p.2+1:=by unfold dst;split <;> simp
  rw[ak];omega
end D
namespace D
open Go.RowKit
theorem XB: ∀(k u:Nat),1<=k->u<10 ^ k->Lib.nDigits u<=k
 | 0,u,h,_=>by omega
 | k+1,u,_,h=>by
  by_cases h1:u<10
  ·rw[Lib.nDigits_small h1];omega
  ·rw[Lib.nDigits_big h1]
   rw[Nat.pow_succ] at h
   have hk:1<=k:=by
    rcases k with _ | k
    ·simp at h;omega
    ·omega
   have:=XB k (u / 10) hk (by omega)
   omega
theorem u8W: ∀d:Fin 10,IntKind.i64.wrap (IntKind.u8.wrap (d.val:Int))=(d.val:Int):=by decide
theorem zi {s:ByteArray} {i:Nat} (h:i<s.size):jR s (i:Int)=some (((s.data.toList[i]'(by simpa using h)).toNat:Nat):Int):=by
 unfold jR chk
 rw[if_pos ⟨by omega,by omega⟩]
 simp only[aa]
 rw[show (i:Int).toNat=i by omega,List.getD_eq_getElem?_getD,List.getElem?_eq_getElem (by simpa using h)]
 rfl
def dtk (s:ByteArray) (i:Nat):Nat×Nat:=(s.data.toList.take i).foldl dst (0,0)
theorem OQ (s:ByteArray) (i:Nat):(dtk s i).1<10 ^ (dtk s i).2/\(dtk s i).2<=i:=by
 refine ⟨Tt _ _ (by decide),?_⟩
 have:=Tu (s.data.toList.take i) (0,0)
 rw[ay] at this
 unfold dtk
 omega
theorem VS (s:ByteArray):ax (ir s) aW (0,0,0)=some (.brk (((dtk s (min s.size 11)).1:Int),((dtk s (min s.size 11)).2:Int),((min s.size 11:Nat):Int))):=by
 refine bq (f:=ir s) (fun i=>(((dtk s i).1:Int),((dtk s i).2:Int),(i:Int))) (min s.size 11) (fun i hi=>?_) ?_ (dD _ (by omega))
 ·have h1:i<s.size:=by omega
  have hl:i<s.data.toList.length:=by simpa using h1
  have hd:dtk s (i+1)=dst (dtk s i) (s.data.toList[i]):=by
   unfold dtk
   rw[List.take_succ_eq_append_getElem hl,List.foldl_append];rfl
  obtain ⟨b1,b2⟩:=OQ s i
  have b3:10 ^ (dtk s i).2<=10 ^ 10:=Nat.pow_le_pow_right (by omega) (by omega)
  unfold ir
  simp only[]
  rw[if_pos (decide_eq_true (by omega)),if_pos (decide_eq_true (by omega)),zi h1,hd]
  generalize s.data.toList[i] =b
  generalize dtk s i=p at *
  simp only[aa]
  unfold dst
  by_cases c1:48<=b.toNat
  ·rw[if_pos (decide_eq_true (by omega))]
   by_cases c2:b.toNat<=57
   ·rw[if_pos (decide_eq_true (by omega)),if_pos ⟨c1,c2⟩]
    obtain ⟨d,hd,e⟩: ∃d,d<10/\b.toNat=48+d:=⟨b.toNat - 48,by omega,by omega⟩
    rw[e,show ((48+d:Nat):Int) - 48=(d:Int) by omega,u8W ⟨d,hd⟩]
    simp only[aa]
    rw[fm (n:=(p.1:Int)*10) (by omega) (by omega),fm (by show _<=_+(d:Int);omega) (by show _+(d:Int)<=_;omega),af (by omega),af (by omega)]
    congr 4
    show (p.1:Int)*10+(d:Int)=((p.1*10+(48+d - 48):Nat):Int)
    omega
   ·rw[if_neg (by simp;omega),if_neg (by omega)]
    simp only[aa]
    rw[af (by omega)]
  ·rw[if_neg (by simp;omega),if_neg (by omega)]
   simp only[aa]
   rw[af (by omega)]
 ·unfold ir
  simp only[]
  by_cases h:s.size<=11
  ·rw[Nat.min_eq_left h,if_neg (by simp)]
  ·rw[Nat.min_eq_right (by omega),if_pos (decide_eq_true (by omega)),if_neg (by simp)]
def sgn (s:ByteArray):Int:=if s.data.toList.head? =some 45 then -((dtk s (min s.size 11)).1:Int) else ((dtk s (min s.size 11)).1:Int)
theorem Tv (s:ByteArray):(sgn s).natAbs<10 ^ (dtk s (min s.size 11)).2/\(sgn s).natAbs<10 ^ 11:=by
 obtain ⟨b1,b2⟩:=OQ s (min s.size 11)
 have b3:10 ^ (dtk s (min s.size 11)).2<=10 ^ 11:=Nat.pow_le_pow_right (by omega) (by omega)
 have:(sgn s).natAbs=(dtk s (min s.size 11)).1:=by unfold sgn;split <;> omega
 omega
theorem Tw (s:ByteArray):fU s=if 9<(dtk s (min s.size 11)).2\/10<s.size then some (0,false) else if mkB (Lib.itoa (sgn s))=s then some (sgn s,true) else some (0,false):=by
 have hs:=(Tv s).2
 have hi:I64 (sgn s):=by unfold I64;omega
 obtain ⟨b1,b2⟩:=OQ s (min s.size 11)
 have b3:10 ^ (dtk s (min s.size 11)).2<=10 ^ 11:=Nat.pow_le_pow_right (by omega) (by omega)
 have fin: ∀z:Int,z=sgn s->(if decide (((dtk s (min s.size 11)).2:Int)>9) then (some (0,false)) else (if decide (((s.size:Nat):Int)>10) then (some (0,false)) else ((b9 z).bind fun r10=>if r10 !=s then (some (0,false)) else (some (z,true)))):Option (Int×Bool))=if 9<(dtk s (min s.size 11)).2\/10<s.size then some (0,false) else if mkB (Lib.itoa (sgn s))=s then some (sgn s,true) else some (0,false):=by
  rintro z rfl
  by_cases c1:9<(dtk s (min s.size 11)).2
  ·rw[if_pos (decide_eq_true (by omega)),if_pos (Or.inl c1)]
  ·rw[if_neg (by simp;omega)]
   by_cases c2:10<s.size
   ·rw[if_pos (decide_eq_true (by omega)),if_pos (Or.inr c2)]
   ·rw[if_neg (by simp;omega),if_neg (by omega),tw hi,aa]
    by_cases c3:mkB (Lib.itoa (sgn s))=s
    ·rw[if_pos c3,if_neg (by simp[c3])]
    ·rw[if_neg c3,if_pos (by simpa using c3)]
 unfold fU
 rw[aw (VS s)]
 simp only[]
 by_cases h0:0<s.size
 ·rw[if_pos (decide_eq_true (by omega))]
  have hl:0<s.data.toList.length:=by simpa using h0
  have e0:jR s 0=some (((s.data.toList[0]).toNat:Nat):Int):=zi (i:=0) h0
  have eh:s.data.toList.head? =some s.data.toList[0]:=by rw[List.head?_eq_getElem?,List.getElem?_eq_getElem hl]
  rw[e0,aa]
  by_cases c:s.data.toList[0] =45
  ·rw[if_pos (by rw[c];rfl),aa,fm (by omega) (by omega)]
   exact fin _ (by unfold sgn;rw[eh,if_pos (by rw[c])])
  ·have hn:(s.data.toList[0]).toNat≠45:=fun e=>c (UInt8.toNat_inj.1 e)
   rw[if_neg (fun e=>hn (by have:=eq_of_beq e;omega)),aa]
   exact fin _ (by unfold sgn;rw[eh,if_neg (by simpa using c)])
 ·rw[if_neg (by rw[decide_eq_true_eq];omega)]
  have he:s.data.toList.head? =none:=by
   have:s.data.toList= []:=List.eq_nil_of_length_eq_zero (by
    have:s.data.toList.length=s.size:=by simp
    omega)
   rw[this];rfl
  exact fin _ (by unfold sgn;rw[he,if_neg (by simp)])
theorem RW {n:Int} (h: -999999999<=n/\n<=999999999):Lib.nDigits n.natAbs<=9/\(Lib.itoa n).length<=10:=by
 have k:Lib.nDigits n.natAbs<=9:=XB 9 _ (by omega) (by omega)
 refine ⟨k,?_⟩
 unfold Lib.itoa
 split
 ·rw[ak,Lib.decDigits_length];omega
 ·rw[Lib.decDigits_length,show n.toNat=n.natAbs by omega];omega
theorem OR (n:Int):((Lib.itoa n).head? =some 45)↔n<0:=by
 unfold Lib.itoa
 split
 ·rename_i h;simp[h]
 ·rename_i h
  obtain ⟨d,r,hd,e⟩:=J7 n.toNat
  rw[e]
  have:=(ID hd).1
  simp only[List.head?_cons,Option.some.injEq]
  constructor
  ·intro k;rw[k] at this;simp at this
  ·intro k;omega
theorem Em {n:Int} (h: -999999999<=n/\n<=999999999):fU (mkB (Lib.itoa n))=some (n,true)/\fW (mkB (Lib.itoa n))=some (n,true):=by
 obtain ⟨h9,h10⟩:=RW h
 constructor
 ·have ed:dtk (mkB (Lib.itoa n)) (min (mkB (Lib.itoa n)).size 11)=(n.natAbs,Lib.nDigits n.natAbs):=by
   unfold dtk
   rw[fe,bS,Nat.min_eq_left (by omega),List.take_length,RV]
  have es:sgn (mkB (Lib.itoa n))=n:=by
   unfold sgn
   rw[ed,fe]
   by_cases c:n<0
   ·rw[if_pos ((OR n).2 c)];show -(n.natAbs:Int)=n;omega
   ·rw[if_neg fun k=>c ((OR n).1 k)];show (n.natAbs:Int)=n;omega
  rw[Tw,ed,es,bS,if_neg (by show¬(9<Lib.nDigits n.natAbs\/_);omega),if_pos rfl]
 ·unfold fW R.rO
  rw[bS,fe,if_neg (by omega),ON]
  show (if _ then _ else _)=_
  rw[if_pos ⟨rfl,h.1,h.2⟩]
theorem J8 {s:ByteArray} (h: ¬ ∃n:Int,(-999999999<=n/\n<=999999999)/\s=mkB (Lib.itoa n)):fU s=some (0,false)/\fW s=some (0,false):=by
 constructor
 ·rw[Tw]
  by_cases c:9<(dtk s (min s.size 11)).2\/10<s.size
  ·rw[if_pos c]
  ·rw[if_neg c,if_neg]
   intro e
   have b1:=(Tv s).1
   have b3:10 ^ (dtk s (min s.size 11)).2<=10 ^ 9:=Nat.pow_le_pow_right (by omega) (by omega)
   exact h ⟨sgn s,by omega,e.symm⟩
 ·unfold fW R.rO
  by_cases c:10<s.size
  ·rw[if_pos c]
  ·rw[if_neg c]
   cases ha:Lib.atoi s.data.toList with
   | none=>rfl
   | some n =>
    show (if _ then _ else _)=_
    rw[if_neg fun k=>h ⟨n,k.2,k.1.symm⟩]
theorem qD (s:ByteArray): ∃r:Int×Bool,fU s=some r/\fW s=some r/\((r.2=true/\(-999999999<=r.1/\r.1<=999999999)/\s=mkB (Lib.itoa r.1))\/r=(0,false)):=by
 by_cases h: ∃n:Int,(-999999999<=n/\n<=999999999)/\s=mkB (Lib.itoa n)
 ·obtain ⟨n,hn,rfl⟩:=h
  exact ⟨_,(Em hn).1,(Em hn).2,.inl ⟨rfl,hn,rfl⟩⟩
 ·exact ⟨_,(J8 h).1,(J8 h).2,.inr rfl⟩
end D
namespace D
open Go.RowKit
abbrev AutT:=Int×(List Bool)×(List (List Int))
structure VA (a:AutT) (n:Nat):Prop where
 len:a.2.1.length=n
 start:0<=a.1/\a.1<n
 nlen:a.2.2.length=n
 row: ∀r∈a.2.2,r.length=9
 ent: ∀r∈a.2.2,∀t∈r,-1<=t/\t<n
def mv (a:AutT) (s:Int) (k:Nat):Int:=nth (nth a.2.2 s) k
theorem OS (x l h:Int):cS x l h=some (decide (l<=x/\x<=h)):=by
 unfold cS
 by_cases c:l<=x
 ·simp[c]
 ·have: ¬l<=x/\True:=⟨c,trivial⟩
  simp[c]
theorem IE (x l h:Int):cd x l h=some (decide (l<=x/\x<=h)):=by
 unfold cd
 by_cases c:l<=x
 ·simp[c]
 ·simp[c]
theorem scan {α R:Type} [Inhabited α] {f:Int->Option (Out R Int)} (xs:List α) (p:α->Prop) [DecidablePred p] (r:R) (hN:xs.length<=9223372036854775807)
  (h: ∀i:Nat,i<xs.length->f (i:Int)=some (if p (nth xs i) then .nxt ((i+1:Nat):Int) else .ret r)) (he:f (xs.length:Int)=some (.brk (xs.length:Int))) :
  (ax f aW 0=some (.brk (xs.length:Int))/\ ∀x∈xs,p x)\/(ax f aW 0=some (.ret r)/\ ¬ ∀x∈xs,p x):=by
 obtain ⟨o,e,hq⟩:=da (f:=f) (fun i s=>s=(i:Int)/\ ∀j:Nat,j<i->p (nth xs j)) (fun o=>(o= .brk (xs.length:Int)/\ ∀x∈xs,p x)\/(o= .ret r/\ ¬ ∀x∈xs,p x)) xs.length (s:=0) (by
  rintro i s hi ⟨rfl,hp⟩
  by_cases hl:i<xs.length
  ·by_cases c:p (nth xs i)
   ·refine .inl ⟨hl,_,by rw[h i hl,if_pos c],rfl,fun j hj=>?_⟩
    by_cases e:j=i
    ·subst e;exact c
    ·exact hp j (by omega)
   ·refine .inr ⟨_,by rw[h i hl,if_neg c],(fun s' e=>by cases e),.inr ⟨rfl,fun hx=>c (hx _ (cy (by omega) (by omega)))⟩⟩
  ·obtain rfl:i=xs.length:=by omega
   refine .inr ⟨_,he,(fun s' e=>by cases e),.inl ⟨rfl,fun x hx=>?_⟩⟩
   obtain ⟨j,hj,rfl⟩:=Iy hx
   exact hp j hj) ⟨rfl,by omega⟩ (uh hN)
 rcases hq with ⟨rfl,hq⟩ | ⟨rfl,hq⟩
 ·exact .inl ⟨e,hq⟩
 ·exact .inr ⟨e,hq⟩
section
variable {a:AutT} {n:Nat} (V:VA a n)
include V
theorem VA.pos:0<n:=by have:=V.start;omega
theorem VA.rowAt {s:Int} (h0:0<=s) (h1:s<n):(nth a.2.2 s).length=9:=V.row _ (cy h0 (by rw[V.nlen];exact h1))
theorem VA.mv {s:Int} {k:Nat} (h0:0<=s) (h1:s<n) (hk:k<9): -1<=mv a s k/\mv a s k<n:=
 V.ent _ (cy h0 (by rw[V.nlen];exact h1)) _ (cy (by omega) (by rw[V.rowAt h0 h1];omega))
theorem VA.get {s:Int} (h0:0<=s) (h1:s<n):aQ a.2.2 s=some (nth a.2.2 s):=aF h0 (by rw[V.nlen];exact h1)
theorem VA.get2 {s:Int} {k:Nat} (h0:0<=s) (h1:s<n) (hk:k<9):aQ (nth a.2.2 s) (k:Int)=some (D.mv a s k):=aF (by omega) (by rw[V.rowAt h0 h1];omega)
theorem VA.acc {s:Int} (h0:0<=s) (h1:s<n):aQ a.2.1 s=some (nth a.2.1 s):=aF h0 (by rw[V.len];exact h1)
theorem XC {s:Int} {k:Nat} (h0:0<=s) (h1:s<n) (hk:k<9):eX a s (k:Int)=some (mv a s k):=by
 unfold eX jZ
 rw[if_neg (by simp;omega),IE];simp only[aa]
 rw[if_pos (by simp;omega),V.get h0 h1];simp only[aa]
 rw[V.get2 h0 h1 hk];rfl
end
end D
namespace D
open Go.RowKit
theorem En (s:ByteArray):fT s=j5 s:=by
 have e:fM s=nM s:=by
  funext p
  unfold fM nM
  rw[Int.mul_comm p.1 257]
 unfold fT j5
 rw[e]
theorem GM (s:ByteArray) (h:s.size<=9223372036854775806): ∃r:Int,fT s=some r/\j5 s=some r/\0<=r/\r<=9972:=by
 obtain ⟨p,e,h1,h2,h3⟩:=mB (f:=fM s) (fun i p=>p.2=(i:Int)/\0<=p.1/\p.1<=9972) s.size (fun i p hi hI=>by
  obtain ⟨n,j⟩:=p
  obtain ⟨h1,h2,h3⟩:=hI
  simp only at h1 h2 h3
  subst h1
  unfold fM
  simp only[]
  rw[if_pos (decide_eq_true (by omega)),zi hi]
  simp only[aa]
  generalize s.data.toList[i] =b
  have hb:b.toNat<256:=b.toNat_lt
  rw[fm (n:=((b.toNat:Nat):Int)) (by omega) (by omega),fm (n:=n*257) (by omega) (by omega),fm (n:=n*257+(b.toNat:Int)) (by omega) (by omega),fm (n:=n*257+(b.toNat:Int)+1) (by omega) (by omega),af (by omega)]
  refine ⟨_,rfl,rfl,?_,?_⟩
  ·exact Int.tmod_nonneg _ (by omega)
  ·have:Int.tmod (n*257+(b.toNat:Int)+1) 9973<9973:=Int.tmod_lt_of_pos _ (by decide)
   show Int.tmod (n*257+(b.toNat:Int)+1) 9973<=9972
   omega) (fun p hI=>by
  obtain ⟨n,j⟩:=p
  obtain ⟨h1,-⟩:=hI
  simp only at h1
  subst h1
  unfold fM
  simp only[]
  rw[if_neg (by simp)]) (s:=(1,0)) ⟨rfl,by decide,by decide⟩ (dD _ (by omega))
 have k:fT s=some p.1:=by
  unfold fT
  rw[aw e]
 exact ⟨p.1,k,by rw[<-En];exact k,h2,h3⟩
def edOk (e:Int×Int×Int×Int):Prop:=(1<=e.1/\e.1<=99)/\(0<=e.2.1/\e.2.1<=4)/\(0<=e.2.2.1/\e.2.2.1<=4)/\(0<=e.2.2.2/\e.2.2.2<=2)
instance (e:Int×Int×Int×Int):Decidable (edOk e):=inferInstanceAs (Decidable (_/\_))
def sG (e:Int×Int×Int×Int):List UInt8:=Lib.itoa e.1++ [58] ++Lib.itoa e.2.1++ [UInt8.ofNat (97+e.2.2.2.toNat)] ++Lib.itoa e.2.2.1
theorem RX: ∀k:Fin 3,eO (IntKind.i64.wrap (2*(k.val:Int)))=some (mkB [UInt8.ofNat (97+k.val)]):=by
 intro k
 match k with
 | ⟨0,_⟩=>rfl
 | ⟨1,_⟩=>rfl
 | ⟨2,_⟩=>rfl
theorem RY: ∀k:Fin 3,rm (⟨#[97,98,99]⟩) (k.val:Int) (IntKind.i64.wrap ((k.val:Int)+1))=some (mkB [UInt8.ofNat (97+k.val)]):=by
 intro k
 match k with
 | ⟨0,_⟩=>rfl
 | ⟨1,_⟩=>rfl
 | ⟨2,_⟩=>rfl
theorem OT (e:Int×Int×Int×Int):jl e=some (if edOk e then mkB (sG e) else mkB []):=by
 unfold jl
 rw[OS,OS,OS,OS]
 simp only[aa]
 by_cases h:edOk e
 ·obtain ⟨h1,h2,h3,h4⟩:=h
  rw[if_pos (decide_eq_true h1),if_pos (decide_eq_true h2),if_pos (decide_eq_true h3),if_pos (decide_eq_true h4),if_pos ⟨h1,h2,h3,h4⟩]
  have i1:I64 e.1:=by unfold I64;omega
  have i2:I64 e.2.1:=by unfold I64;omega
  have i3:I64 e.2.2.1:=by unfold I64;omega
  have n1:=rj i1
  have n2:=rj i2
  have n3:=rj i3
  obtain ⟨k,hk,ek⟩: ∃k:Nat,k<3/\e.2.2.2=(k:Int):=⟨e.2.2.2.toNat,by omega,by omega⟩
  rw[tw i1,tw i2,tw i3,ek,RX ⟨k,hk⟩]
  simp only[aa]
  have c1:mD (mkB (Lib.itoa e.1)) (⟨#[58]⟩)=some (mkB (Lib.itoa e.1++ [58])):=El _ [58] (by simp;omega)
  rw[c1]
  simp only[aa]
  rw[El _ _ (by simp;omega)]
  simp only[aa]
  rw[El _ _ (by simp;omega)]
  simp only[aa]
  rw[El _ _ (by simp;omega)]
  simp only[aa]
  unfold sG
  rw[ek];rfl
 ·rw[if_neg h]
  split
  ·split
   ·split
    ·split
     ·rename_i a b c d
      exact absurd ⟨of_decide_eq_true a,of_decide_eq_true b,of_decide_eq_true c,of_decide_eq_true d⟩ h
     ·rfl
    ·rfl
   ·rfl
  ·rfl
theorem OU (e:Int×Int×Int×Int):jm e=some (if edOk e then mkB (sG e) else mkB []):=by
 have h5:IntKind.i64.wrap (5 - 1)=4:=by decide
 have hok:jY (e.1,e.2.1,e.2.2.1,e.2.2.2) 5=some (decide (edOk e)):=by
  unfold jY
  rw[h5,IE,IE,IE,IE]
  simp only[aa]
  by_cases h1:1<=e.1/\e.1<=99
  ·rw[if_pos (decide_eq_true h1)]
   by_cases h2:0<=e.2.1/\e.2.1<=4
   ·rw[if_pos (decide_eq_true h2)]
    by_cases h3:0<=e.2.2.1/\e.2.2.1<=4
    ·rw[if_pos (decide_eq_true h3)]
     congr 1
     exact decide_eq_decide.2 ⟨fun h4=>⟨h1,h2,h3,h4⟩,fun h=>h.2.2.2⟩
    ·rw[if_neg (by simpa using h3),decide_eq_false (fun h:edOk e=>h3 h.2.2.1)]
   ·rw[if_neg (by simpa using h2),decide_eq_false (fun h:edOk e=>h2 h.2.1)]
  ·rw[if_neg (by simpa using h1),decide_eq_false (fun h:edOk e=>h1 h.1)]
 unfold jm
 rw[hok]
 simp only[aa]
 by_cases h:edOk e
 ·rw[if_pos (decide_eq_true h),if_pos h]
  obtain ⟨h1,h2,h3,h4⟩:=h
  have i1:I64 e.1:=by unfold I64;omega
  have i2:I64 e.2.1:=by unfold I64;omega
  have i3:I64 e.2.2.1:=by unfold I64;omega
  have n1:=rj i1
  have n2:=rj i2
  have n3:=rj i3
  obtain ⟨k,hk,ek⟩: ∃k:Nat,k<3/\e.2.2.2=(k:Int):=⟨e.2.2.2.toNat,by omega,by omega⟩
  rw[wx i1,wx i2,wx i3,ek,RY ⟨k,hk⟩]
  simp only[aa]
  have c1:mD (mkB (Lib.itoa e.1)) (⟨#[58]⟩)=some (mkB (Lib.itoa e.1++ [58])):=El _ [58] (by simp;omega)
  rw[c1]
  simp only[aa]
  rw[El _ _ (by simp;omega)]
  simp only[aa]
  rw[El _ _ (by simp;omega)]
  simp only[aa]
  rw[El _ _ (by simp;omega)]
  simp only[aa]
  unfold sG
  rw[ek];rfl
 ·rw[if_neg (by simpa using h),if_neg h];rfl
end D
namespace D
open Go.RowKit
abbrev ChT:Type:=Bool×Int×Int×Int×Int
def pb (c:ChT):List UInt8:=(if c.1 then 43 else 45)::sG c.2
def btx (l:List ChT):List UInt8:=Lib.join (l.map pb) [32]
def zj (l:List ChT):Prop:= ∀c,c∈l->edOk c.2
theorem tx {e:Int×Int×Int×Int} (h:edOk e):(sG e).length<=70:=by
 obtain ⟨h1,h2,h3,h4⟩:=h
 have n1:=rj (n:=e.1) (by unfold I64;omega)
 have n2:=rj (n:=e.2.1) (by unfold I64;omega)
 have n3:=rj (n:=e.2.2.1) (by unfold I64;omega)
 unfold sG
 simp only[al,ak,aG];omega
theorem OV (e:Int×Int×Int×Int):(mkB (sG e)==(⟨#[]⟩:ByteArray))=false:=by
 rw[beq_eq_false_iff_ne]
 intro k
 have:=congrArg ByteArray.size k
 rw[bS] at this
 unfold sG at this
 simp only[al,ak,aG] at this
 have e0:(⟨#[]⟩:ByteArray).size=0:=rfl
 omega
theorem OW: ∀(r:List ChT),zj r->(Lib.joinTail [32] (r.map pb)).length<=72*r.length
 | [],_=>by simp[Lib.joinTail]
 | c::r,h=>by
  have h1:=OW r fun q hq=>h q (br _ hq)
  have h2:=tx (h c (by simp))
  have e:Lib.joinTail [32] ((c::r).map pb)=([32] ++pb c)++Lib.joinTail [32] (r.map pb):=by simp[Lib.joinTail]
  rw[e,al,al,ak]
  unfold pb
  simp only[ak,aG]
  unfold pb at h1
  omega
theorem Eo {l:List ChT} (h:zj l):(btx l).length<=72*l.length:=by
 cases l with
 | nil=>simp[btx,Lib.join_nil]
 | cons c r =>
  have h1:=OW r fun q hq=>h q (br _ hq)
  have h2:=tx (h c (by simp))
  unfold btx
  rw[List.map_cons,Lib.join_cons,al,ak]
  have:(pb c).length=(sG c.2).length+1:=by unfold pb;rw[ak]
  omega
theorem RZ {l:List ChT} {i:Nat} (hi:i<l.length):btx (l.take (i+1))=if i=0 then pb l[i] else btx (l.take i)++ [32] ++pb l[i]:=by
 unfold btx
 rw[List.take_succ_eq_append_getElem hi,aO,List.map_cons,List.map_nil,OL]
 by_cases h:i=0
 ·subst h;rw[if_pos (by simp),if_pos rfl]
 ·rw[if_neg (by
   intro e
   have:=congrArg List.length e
   rw[List.length_map,ay,aG] at this
   omega),if_neg h]
theorem GN {l:List ChT} {i:Nat} (hi:i<l.length) (h:zj (l.take i)) (k:edOk l[i].2):zj (l.take (i+1)):=by
 rw[List.take_succ_eq_append_getElem hi]
 intro c hc
 rcases aJ hc with hc | hc
 ·exact h c hc
 ·obtain rfl:=az hc;exact k
theorem VT {l:List ChT} (hl:l.length<=6):(zj l/\ax (eZ l) aW (([] :List ByteArray),0)=some (.brk (l.map (fun c=>mkB (pb c)),(l.length:Int))))\/(¬zj l/\ax (eZ l) aW (([] :List ByteArray),0)=some (.ret (mkB []))):=by
 obtain ⟨o,e,hQ⟩:=da (f:=eZ l) (fun i s=>s=((l.take i).map (fun c=>mkB (pb c)),(i:Int))/\zj (l.take i)) (fun o=>(zj l/\o= .brk (l.map (fun c=>mkB (pb c)),(l.length:Int)))\/(¬zj l/\o= .ret (mkB []))) l.length (fun i s hi hI=>by
  obtain ⟨rfl,hb⟩:=hI
  unfold eZ
  simp only[]
  by_cases h1:i<l.length
  ·rw[bM h1,if_pos rfl,aD h1]
   simp only[aa]
   rw[OU]
   simp only[aa]
   by_cases k:edOk l[i].2
   ·have n1:=tx k
    have c1:mD (⟨#[43]⟩) (mkB (sG l[i].2))=some (mkB (43::sG l[i].2)):=El [43] _ (by simp;omega)
    have c2:mD (⟨#[45]⟩) (mkB (sG l[i].2))=some (mkB (45::sG l[i].2)):=El [45] _ (by simp;omega)
    have hx: ∀z:ByteArray,cr 16 ((l.take i).map (fun c=>mkB (pb c))) [z] =some ((l.take i).map (fun c=>mkB (pb c))++ [z]):=fun z=>aL (by rw[List.length_map,ay];simp only[ak,aG];omega)
    refine .inl ⟨h1,((l.take (i+1)).map (fun c=>mkB (pb c)),((i+1:Nat):Int)),?_,rfl,GN h1 hb k⟩
    rw[if_pos k,if_neg (by rw[OV];decide),c1,c2]
    simp only[aa]
    rw[hx,hx,List.take_succ_eq_append_getElem h1,aO,List.map_cons,List.map_nil,<-af (show i<9223372036854775807 by omega)]
    have ec:pb l[i] =(if l[i].1=true then 43 else 45)::sG l[i].2:=rfl
    rw[ec]
    generalize l[i].1=t
    cases t <;> rfl
   ·refine .inr ⟨.ret (mkB []),?_,fun s' h=>(by simp at h),.inr ⟨fun h=>k (h _ (List.getElem_mem h1)),rfl⟩⟩
    rw[if_neg k];rfl
  ·obtain rfl:i=l.length:=by omega
   rw[List.take_length] at hb
   refine .inr ⟨_,by rw[bu];rfl,fun s' h=>(by simp at h),.inl ⟨hb,by rw[List.take_length]⟩⟩) (s:=([],0)) ⟨rfl,fun c hc=>by simp at hc⟩ (dD _ (by omega))
 rcases hQ with ⟨h,rfl⟩ | ⟨h,rfl⟩
 ·exact .inl ⟨h,e⟩
 ·exact .inr ⟨h,e⟩
theorem VU {l:List ChT} (hl:l.length<=6):(zj l/\ax (eU l) aW ((⟨#[]⟩:ByteArray),0)=some (.brk (mkB (btx l),(l.length:Int))))\/(¬zj l/\ax (eU l) aW ((⟨#[]⟩:ByteArray),0)=some (.ret (mkB []))):=by
 obtain ⟨o,e,hQ⟩:=da (f:=eU l) (fun i s=>s=(mkB (btx (l.take i)),(i:Int))/\zj (l.take i)) (fun o=>(zj l/\o= .brk (mkB (btx l),(l.length:Int)))\/(¬zj l/\o= .ret (mkB []))) l.length (fun i s hi hI=>by
  obtain ⟨rfl,hb⟩:=hI
  have hn:=Eo hb
  rw[ay] at hn
  unfold eU
  simp only[]
  by_cases h1:i<l.length
  ·rw[bM h1,if_pos rfl,aD h1]
   simp only[aa]
   rw[OT]
   simp only[aa]
   by_cases k:edOk l[i].2
   ·have n1:=tx k
    refine .inl ⟨h1,(mkB (btx (l.take (i+1))),((i+1:Nat):Int)),?_,rfl,GN h1 hb k⟩
    rw[if_pos k,if_neg (by rw[OV];decide),RZ h1,<-af (show i<9223372036854775807 by omega)]
    have ec:pb l[i] =(if l[i].1=true then 43 else 45)::sG l[i].2:=rfl
    rw[ec]
    generalize l[i].1=t
    have g1: ∀(a:List UInt8) (b:UInt8),a.length<=1000->mD (mkB a) (mkB [b])=some (mkB (a++ [b])):=fun a b ha=>El _ _ (by simp;omega)
    have g2: ∀(a:List UInt8) (b:UInt8),a.length<=1000->mD (mkB (a++ [b])) (mkB (sG l[i].2))=some (mkB (a++b::sG l[i].2)):=fun a b ha=>by
     rw[El _ _ (by simp;omega),ai];rfl
    by_cases h0:i=0
    ·subst h0
     have eb:btx (l.take 0)= []:=rfl
     have q1:=g1 [] 43 (by simp)
     have q2:=g1 [] 45 (by simp)
     have q3:=g2 [] 43 (by simp)
     have q4:=g2 [] 45 (by simp)
     have l1:(⟨#[43]⟩:ByteArray)=mkB [43]:=rfl
     have l2:(⟨#[45]⟩:ByteArray)=mkB [45]:=rfl
     rw[eb,if_pos rfl,if_neg (by simp)]
     simp only[aa]
     rw[l1,l2,q1,q2]
     simp only[aa]
     rw[q3,q4]
     cases t <;> rfl
    ·have hs:=g1 (btx (l.take i)) 32 (by omega)
     have q1:=g1 (btx (l.take i)++ [32]) 43 (by simp;omega)
     have q2:=g1 (btx (l.take i)++ [32]) 45 (by simp;omega)
     have q3:=g2 (btx (l.take i)++ [32]) 43 (by simp;omega)
     have q4:=g2 (btx (l.take i)++ [32]) 45 (by simp;omega)
     have l1:(⟨#[43]⟩:ByteArray)=mkB [43]:=rfl
     have l2:(⟨#[45]⟩:ByteArray)=mkB [45]:=rfl
     have l3:(⟨#[32]⟩:ByteArray)=mkB [32]:=rfl
     rw[if_neg h0,if_pos (decide_eq_true (by omega)),l1,l2,l3,hs]
     simp only[aa]
     rw[q1,q2]
     simp only[aa]
     rw[q3,q4]
     cases t <;> rfl
   ·refine .inr ⟨.ret (mkB []),?_,fun s' h=>(by simp at h),.inr ⟨fun h=>k (h _ (List.getElem_mem h1)),rfl⟩⟩
    rw[if_neg k];rfl
  ·obtain rfl:i=l.length:=by omega
   rw[List.take_length] at hb
   refine .inr ⟨_,by rw[bu];rfl,fun s' h=>(by simp at h),.inl ⟨hb,by rw[List.take_length]⟩⟩) (s:=((⟨#[]⟩:ByteArray),0)) ⟨rfl,fun c hc=>by simp at hc⟩ (dD _ (by omega))
 rcases hQ with ⟨h,rfl⟩ | ⟨h,rfl⟩
 ·exact .inl ⟨h,e⟩
 ·exact .inr ⟨h,e⟩
open Classical in
theorem tz (l:List ChT):cU l=some (if l.length<=6/\zj l then mkB (btx l) else mkB [])/\ep l=some (if l.length<=6/\zj l then mkB (btx l) else mkB []):=by
 unfold cU ep
 by_cases h6:l.length<=6
 ·have hd: ¬decide ((l.length:Int)>6)=true:=by rw[decide_eq_true_eq];omega
  constructor
  ·rw[if_neg hd]
   rcases VU h6 with ⟨h,e⟩ | ⟨h,e⟩
   ·rw[aw e,if_pos ⟨h6,h⟩]
   ·rw[cx e,if_neg fun k=>h k.2]
  ·rw[if_neg hd]
   rcases VT h6 with ⟨h,e⟩ | ⟨h,e⟩
   ·have hn:=Eo h
    rw[aw e,if_pos ⟨h6,h⟩]
    show (jz (l.map fun p=>mkB (pb p)) (mkB [32])).bind _=_
    unfold jz R.Rz chk
    have e:(l.map fun p=>mkB (pb p)).map (·.data.toList)=l.map pb:=by
     rw[List.map_map]
     exact List.map_congr_left fun p _=>fe _
    rw[e,fe,List.length_map,if_pos ⟨by omega,by show (btx l).length<=_;omega⟩];rfl
   ·rw[cx e,if_neg fun k=>h k.2]
 ·have hd:decide ((l.length:Int)>6)=true:=decide_eq_true (by omega)
  constructor
  ·rw[if_pos hd,if_neg fun k=>h6 k.1];rfl
  ·rw[if_pos hd,if_neg fun k=>h6 k.1];rfl
end D
namespace D
open Go.RowKit
theorem Bg (v:Int) (l:List ChT): ∃r:ByteArray,eP v l=some r/\gG v l=some r/\r.size<=1000:=by
 obtain ⟨es,ei⟩:=tz l
 obtain ⟨t,et,hn⟩: ∃t:List UInt8,(cU l=some (mkB t)/\ep l=some (mkB t))/\t.length<=432:=by
  by_cases h:l.length<=6/\zj l
  ·have:=Eo h.2
   refine ⟨btx l,⟨?_,?_⟩,by omega⟩
   ·rw[es,if_pos h]
   ·rw[ei,if_pos h]
  ·refine ⟨[],⟨?_,?_⟩,by simp⟩
   ·rw[es,if_neg h]
   ·rw[ei,if_neg h]
 obtain ⟨e1,e2⟩:=et
 unfold eP gG
 rw[e1,e2,OS,IE]
 simp only[aa]
 by_cases hv:1<=v/\v<=999
 ·have iv:I64 v:=by unfold I64;omega
  have nv:=rj iv
  have c1:mD (mkB (Lib.itoa v)) (⟨#[59]⟩)=some (mkB (Lib.itoa v++ [59])):=El _ [59] (by simp;omega)
  have c2:mD (mkB (Lib.itoa v++ [59])) (mkB t)=some (mkB (Lib.itoa v++ [59] ++t)):=El _ _ (by simp;omega)
  have c3:mD (mkB (Lib.itoa v++ [59] ++t)) (⟨#[59]⟩)=some (mkB (Lib.itoa v++ [59] ++t++ [59])):=El _ [59] (by simp;omega)
  obtain ⟨q,k1,k2,q1,q2⟩:=GM (mkB (Lib.itoa v++ [59] ++t++ [59])) (by rw[bS];simp;omega)
  have iq:I64 q:=by unfold I64;omega
  have nq:=rj iq
  have c4:mD (mkB (Lib.itoa v++ [59] ++t++ [59])) (mkB (Lib.itoa q))=some (mkB (Lib.itoa v++ [59] ++t++ [59] ++Lib.itoa q)):=El _ _ (by simp;omega)
  have c5:mD (mkB (Lib.itoa v++ [59] ++t++ [59] ++Lib.itoa q)) (⟨#[10]⟩)=some (mkB (Lib.itoa v++ [59] ++t++ [59] ++Lib.itoa q++ [10])):=El _ [10] (by simp;omega)
  have hs:(mkB (Lib.itoa v++ [59] ++t++ [59] ++Lib.itoa q++ [10])).size<=1000:=by rw[bS];simp;omega
  have h0:((⟨#[]⟩:ByteArray)).size<=1000:=by decide
  rw[decide_eq_true hv]
  simp only[if_true,tw iv,wx iv,tw iq,wx iq,c1,c2,c3,k1,k2,c4,c5,aa]
  by_cases a:decide ((l.length:Int)>0)=true
  ·by_cases b:(mkB t==(⟨#[]⟩:ByteArray))=true
   ·simp only[if_pos a,if_pos b];exact ⟨_,rfl,rfl,h0⟩
   ·simp only[if_pos a,if_neg b];exact ⟨_,rfl,rfl,hs⟩
  ·by_cases b:(mkB t==(⟨#[]⟩:ByteArray))=true
   ·simp only[if_neg a,if_pos b];exact ⟨_,rfl,rfl,hs⟩
   ·simp only[if_neg a,if_neg b];exact ⟨_,rfl,rfl,hs⟩
 ·rw[decide_eq_false hv]
  exact ⟨_,rfl,rfl,by decide⟩
end D
namespace D
open Go.RowKit
def pc (c:UInt8) (cur:List UInt8):List UInt8->List (List UInt8)
 | [] =>[cur]
 | b::l=>if b=c then cur::pc c [] l else pc c (cur++ [b]) l
theorem om {c:UInt8} : ∀ {l cur:List UInt8},c∉l->pc c cur l= [cur++l]
 | [],cur,_=>by simp[pc]
 | b::l,cur,h=>by
  have hb:b≠c:=fun e=>h (by simp[e])
  rw[pc,if_neg hb,om fun k=>h (br _ k)]
  simp
theorem qF {c:UInt8} : ∀ {a cur r:List UInt8},c∉a->pc c cur (a++c::r)=(cur++a)::pc c [] r
 | [],cur,r,_=>by simp[pc]
 | b::a,cur,r,h=>by
  have hb:b≠c:=fun e=>h (by simp[e])
  rw[List.cons_append,pc,if_neg hb,qF fun k=>h (br _ k)]
  simp
theorem Ep (c:UInt8): ∀(l cur:List UInt8),(pc c cur l).length<=l.length+1
 | [],cur=>by simp[pc]
 | b::l,cur=>by
  rw[pc]
  split
  ·have:=Ep c l [];simp only[ak];omega
  ·have:=Ep c l (cur++ [b]);simp only[ak];omega
theorem sH (c:UInt8): ∀(l cur:List UInt8),∀x∈pc c cur l,x.length<=cur.length+l.length
 | [],cur,x,h=>by simp[pc] at h;subst h;simp
 | b::l,cur,x,h=>by
  rw[pc] at h
  split at h
  ·rcases aE h with rfl | h
   ·simp
   ·have:=sH c l [] x h;simp at this;simp;omega
  ·have:=sH c l _ x h;simp at this;simp;omega
theorem tC (c:UInt8) (l:List UInt8):c∉l\/ ∃a r,l=a++c::r/\c∉a:=by
 by_cases h:c∈l
 ·obtain ⟨a,r,e,k⟩:=List.eq_append_cons_of_mem h
  exact .inr ⟨a,r,e,k⟩
 ·exact .inl h
theorem Er (s:ByteArray):mkB s.data.toList=s:=by simp[mkB]
theorem XD (s:ByteArray): ∃l:List UInt8,s=mkB l:=⟨_,(Er s).symm⟩
theorem xA {a b:List UInt8} (h:mkB a=mkB b):a=b:=by rw[<-fe a,h,fe]
theorem slB {l:List UInt8} {a b:Nat} (h1:a<=b) (h2:b<=l.length):rm (mkB l) (a:Int) (b:Int)=some (mkB ((l.take b).drop a)):=by
 unfold rm chk
 rw[bS,if_pos ⟨by omega,by omega,by omega⟩,aa]
 congr 1
 refine ByteArray.ext ?_
 simp[mkB,List.drop_take]
theorem atB {l:List UInt8} {i:Nat} (h:i<l.length):jR (mkB l) (i:Int)=some ((l[i].toNat:Nat):Int):=by
 rw[zi (by rw[bS];exact h)]
 simp[mkB]
theorem wz (l:List UInt8) (c:UInt8) (hl:l.length<=1000000):im (mkB l) ((c.toNat:Nat):Int)=some ((pc c [] l).map mkB):=by
 obtain ⟨s,e,fr,done,rfl,h1,h2,h3⟩:=mB (f:=oH (mkB l) ((c.toNat:Nat):Int)) (fun i s=> ∃(fr:Nat) (done:List (List UInt8)),s=(done.map mkB,(fr:Int),(i:Int))/\fr<=i/\done.length<=i/\done++pc c ((l.take i).drop fr) (l.drop i)=pc c [] l) l.length (fun i s hi hI=>by
  obtain ⟨fr,done,rfl,h1,h2,h3⟩:=hI
  unfold oH
  simp only[]
  rw[if_pos (decide_eq_true (by rw[bS];omega)),atB hi]
  simp only[aa]
  rw[List.drop_eq_getElem_cons hi,pc] at h3
  by_cases k:l[i] =c
  ·rw[if_pos k] at h3
   rw[if_pos (by rw[k];simp),slB h1 (by omega)]
   simp only[aa]
   have hx:cr 16 (done.map mkB) [mkB ((l.take i).drop fr)] =some (done.map mkB++ [mkB ((l.take i).drop fr)]):=aL (by rw[List.length_map];simp only[ak,aG];omega)
   rw[hx]
   simp only[aa]
   refine ⟨_,rfl,i+1,done++ [(l.take i).drop fr],?_,aB _,by simp;omega,?_⟩
   ·rw[aO,List.map_cons,List.map_nil,af (by omega)]
   ·rw[<-h3,ai,List.drop_of_length_le (l:=l.take (i+1)) (by rw[ay];omega)];rfl
  ·rw[if_neg k] at h3
   rw[if_neg (fun e=>k (UInt8.toNat_inj.1 (by have:=eq_of_beq e;omega)))]
   simp only[aa]
   refine ⟨_,rfl,fr,done,?_,by omega,by omega,?_⟩
   ·rw[af (by omega)]
   ·rw[<-h3,List.take_succ_eq_append_getElem hi,List.drop_append_of_le_length (by rw[ay];omega)]) (fun s hI=>by
  obtain ⟨fr,done,rfl,h1,h2,h3⟩:=hI
  unfold oH
  simp only[]
  rw[if_neg (by rw[bS];simp)]) (s:=(([] :List ByteArray),0,0)) ⟨0,[],rfl,aB _,aB _,by simp⟩ (dD _ (by omega))
 unfold im
 rw[aw e,bS]
 simp only[]
 rw[slB h1 (aB _)]
 simp only[aa]
 have hx:cr 16 (done.map mkB) [mkB ((l.take l.length).drop fr)] =some (done.map mkB++ [mkB ((l.take l.length).drop fr)]):=aL (by rw[List.length_map];simp only[ak,aG];omega)
 rw[hx,<-h3,List.drop_length,pc]
 simp
theorem Es {c:UInt8} : ∀ {l:List UInt8},c∉l->Lib.index l [c] = -1
 | [],_=>rfl
 | b::l,h=>by
  have hb:c≠b:=fun e=>h (by simp[e])
  have k:([c] :List UInt8).isPrefixOf (b::l)=false:=by simp[List.isPrefixOf,hb]
  rw[Lib.index,k,Es fun k=>h (br _ k)];rfl
theorem Et {c:UInt8} : ∀ {a r:List UInt8},c∉a->Lib.index (a++c::r) [c] =(a.length:Int)
 | [],r,_=>by simp[Lib.index,List.isPrefixOf]
 | b::a,r,h=>by
  have hb:c≠b:=fun e=>h (by simp[e])
  have k:([c] :List UInt8).isPrefixOf (b::(a++c::r))=false:=by simp[List.isPrefixOf,hb]
  rw[List.cons_append,Lib.index,k,Et fun k=>h (br _ k)]
  rw[if_neg (by decide),if_neg (by rw[beq_iff_eq];omega),ak];omega
theorem GO (c:UInt8): ∀(n:Nat) (l:List UInt8),l.length<=n->Lib.splitK [c] 0 (Lib.count l [c]) l=pc c [] l
 | n,l,h=>by
  rcases tC c l with k | ⟨a,r,rfl,k⟩
  ·have e:=Es k
   rw[Lib.count_miss e,om k];rfl
  ·have e:=Et (r:=r) k
   have hd:(a++c::r).drop (a.length+1)=r:=by
    rw[<-List.drop_drop,List.drop_left];rfl
   rw[Lib.count_hit (by simp) e,qF k,Nat.add_comm 1,Lib.splitK,e,if_neg (by rw[beq_iff_eq];omega)]
   show List.take (a.length+0) _::Lib.splitK [c] 0 (Lib.count ((a++c::r).drop (a.length+1)) [c]) ((a++c::r).drop (a.length+1))=_
   rw[hd,Nat.add_zero,List.take_left]
   cases n with
   | zero=>simp at h
   | succ n=>rw[GO c n r (by simp at h;omega)];rfl
theorem Eu (l:List UInt8) (c:UInt8) (hl:l.length<=1000000):cK (mkB l) (mkB [c])=some ((pc c [] l).map mkB):=by
 unfold cK R.JU chk
 rw[bS,bS,if_pos ⟨by omega,by simp⟩,aa]
 congr 1
 have e:=Lib.splitB_data (mkB [c]) 0 (Lib.countB (mkB l) (mkB [c])) (mkB l)
 rw[fe,fe] at e
 have e2:Lib.countB (mkB l) (mkB [c])=Lib.count l [c]:=by unfold Lib.countB;rw[fe,fe]
 rw[e2,GO c l.length l (aB _)] at e
 rw[e2,<-e,List.map_map]
 conv=>lhs;rw[<-List.map_id (Lib.splitB _ _ _ _)]
 exact List.map_congr_left fun x _=>(Er x).symm
theorem R0 {l:List UInt8} {c:UInt8} (hl:l.length<=1000000) (h:c∉l):cX (mkB l) (mkB [c])=some (mkB l,mkB [],false):=by
 unfold cX R.Xs chk
 rw[bS,if_pos (by omega),aa,fe,fe]
 have:Lib.cut l [c] =(l,[],false):=by unfold Lib.cut;rw[Es h,if_neg (by decide)]
 rw[this];rfl
theorem Tx {a r:List UInt8} {c:UInt8} (hl:(a++c::r).length<=1000000) (h:c∉a):cX (mkB (a++c::r)) (mkB [c])=some (mkB a,mkB r,true):=by
 unfold cX R.Xs chk
 rw[bS,if_pos (by omega),aa,fe,fe]
 have:Lib.cut (a++c::r) [c] =(a,r,true):=by
  unfold Lib.cut
  rw[Et h,if_pos (by omega)]
  have hd:(a++c::r).drop (a.length+1)=r:=by
   rw[<-List.drop_drop,List.drop_left];rfl
  show (List.take a.length _,List.drop (a.length+1) _,true)=_
  rw[List.take_left,hd]
 rw[this];rfl
theorem J9 {c:UInt8} : ∀ {l:List UInt8},c∉l->Lib.indexByte l c= -1
 | [],_=>rfl
 | b::l,h=>by
  have hb:b≠c:=fun e=>h (by simp[e])
  rw[Lib.indexByte,if_neg (by simpa using hb),J9 fun k=>h (br _ k)];rfl
theorem Tz {c:UInt8} : ∀ {a r:List UInt8},c∉a->Lib.indexByte (a++c::r) c=(a.length:Int)
 | [],r,_=>by simp[Lib.indexByte]
 | b::a,r,h=>by
  have hb:b≠c:=fun e=>h (by simp[e])
  rw[List.cons_append,Lib.indexByte,if_neg (by simpa using hb),Tz fun k=>h (br _ k),if_neg (by rw[beq_iff_eq];omega),ak];omega
end D
end Go.Proofs.YtilionjghdjbdaaGreatDoor
