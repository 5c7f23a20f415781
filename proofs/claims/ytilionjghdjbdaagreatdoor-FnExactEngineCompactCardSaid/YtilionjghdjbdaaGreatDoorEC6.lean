/- FnExactEngineCompact: for every input the law returns true and changes nothing that was there. Part 7 of 9. -/
import Derived.Test.YtilionjghdjbdaaGreatDoorEC5
set_option linter.unusedVariables false
set_option linter.unusedSimpArgs false
set_option linter.unnecessarySimpa false
set_option linter.unusedSectionVars false
set_option maxRecDepth 1000000
namespace Go.Proofs.YtilionjghdjbdaaGreatDoor
namespace R
open Go.RowKit
open D
abbrev y3:Ty:=.int .i64
abbrev xp:Ty:=.prod y3 (.prod y3 (.prod y3 y3))
abbrev t274:Ty:=.tree 302 274 xp
abbrev GM:Ty:=.prod y3 (.prod y3 (.prod y3 y3))
abbrev Vd:Ty:=.sl 168 GM
abbrev y91:Ty:=.sl 3 y3
abbrev DC:Ty:=.prod y91 Vd
abbrev Yj:Ty:=.prod y3 (.prod y3 y3)
abbrev y59:Ty:=.sl 161 xp
abbrev y61:Ty:=.wr y59
abbrev zS:Ty:=.prod y3 (.prod y61 y3)
abbrev Yk:Ty:=.prod y3 (.prod y3 (.prod y3 y3))
abbrev y4:Ty:=.bool
abbrev Y2:Ty:=.prod y4 GM
abbrev XJ:Ty:=.prod y3 (.prod y3 (.prod y3 y3))
abbrev Y3:Ty:=.prod y4 XJ
abbrev XK:Ty:=.sl 172 XJ
abbrev XL:Ty:=.prod y91 XK
abbrev FR:Ty:=.sl 4 y4
abbrev KM:Ty:=.sl 91 y91
abbrev XM:Ty:=.prod y3 (.prod FR KM)
abbrev y54:Ty:=.sl 163 Yk
abbrev y56:Ty:=.wr y54
abbrev XN:Ty:=.prod y3 (.prod y56 y3)
abbrev kY:Ty:=.prod y3 (.prod FR KM)
abbrev y9:Ty:=.str
abbrev Yl:Ty:=.sl 9 y9
abbrev y22:Ty:=.sl 179 XL
abbrev y5:Ty:=.int .u8
abbrev Zk:Ty:=.sl 5 y5
abbrev JB:Ty:=.prod y91 (.prod y3 (.prod y3 (.prod y91 y4)))
abbrev y24:Ty:=.prod y3 y22
abbrev y25:Ty:=.sl 184 XM
abbrev y26:Ty:=.sl 187 XN
abbrev Y4:Ty:=.prod y4 (.prod y3 y3)
abbrev Y5:Ty:=.prod y3 (.prod y3 y4)
abbrev Ym:Ty:=.fro t274
abbrev y28:Ty:=.prod y25 y26
abbrev y29:Ty:=.sl 133 Yj
abbrev WU:Ty:=.int .u64
abbrev XO:Ty:=.sl 274 Ym
abbrev Zl:Ty:=.prod xp XO
abbrev y31:Ty:=.prod y24 (.prod y28 (.prod y29 y9))
abbrev WV:Ty:=.int .u64
abbrev y34:Ty:=.sl 126 DC
abbrev WW:Ty:=.int .u32
abbrev y36:Ty:=.prod y3 y34
abbrev y37:Ty:=.sl 189 kY
abbrev y38:Ty:=.sl 137 zS
abbrev y40:Ty:=.prod y37 y38
abbrev y88:Ty:=.prod y3 (.prod y3 y3)
abbrev y41:Ty:=.sl 88 y88
abbrev y43:Ty:=.prod y36 (.prod y40 (.prod y41 y9))
abbrev y66:Ty:=.sl 174 Y3
abbrev y68:Ty:=.wr y66
abbrev y71:Ty:=.sl 170 Y2
abbrev y73:Ty:=.wr y71
abbrev y92:Ty:=.sl 73 y73
theorem ti3:TI Tryz.prog 3 false 1:=⟨⟨_,Tryz.underlying3,rfl⟩,by kernel_rfl⟩
theorem WX (a0:Int) (a1:Int) (a2:Int) (a3:Int) (b0:Int) (b1:Int) (b2:Int) (b3:Int) (w:World):EqT Tryz.prog 161 (.agg #[.int .i64 a0,.int .i64 a1,.int .i64 a2,.int .i64 a3]) (.agg #[.int .i64 b0,.int .i64 b1,.int .i64 b2,.int .i64 b3]) ((a0==b0)&&((a1==b1)&&((a2==b2)&&((a3==b3)&&true)))) w:=R8 w Tryz.underlying161 (by kernel_rfl) (by kernel_rfl) (nT rfl (mu ti3 rfl) (mu ti3 rfl) (run_equalIn_int w 9998 3 _ _ _ _ Tryz.underlying3) (nT rfl (mu ti3 rfl) (mu ti3 rfl) (run_equalIn_int w 9998 3 _ _ _ _ Tryz.underlying3) (nT rfl (mu ti3 rfl) (mu ti3 rfl) (run_equalIn_int w 9998 3 _ _ _ _ Tryz.underlying3) (nT rfl (mu ti3 rfl) (mu ti3 rfl) (run_equalIn_int w 9998 3 _ _ _ _ Tryz.underlying3) (LO w)))))
theorem WY (a0:Int) (a1:Int) (a2:Int) (a3:Int) (b0:Int) (b1:Int) (b2:Int) (b3:Int) (w:World):EqT Tryz.prog 168 (.agg #[.int .i64 a0,.int .i64 a1,.int .i64 a2,.int .i64 a3]) (.agg #[.int .i64 b0,.int .i64 b1,.int .i64 b2,.int .i64 b3]) ((a0==b0)&&((a1==b1)&&((a2==b2)&&((a3==b3)&&true)))) w:=R8 w Tryz.underlying168 (by kernel_rfl) (by kernel_rfl) (nT rfl (mu ti3 rfl) (mu ti3 rfl) (run_equalIn_int w 9998 3 _ _ _ _ Tryz.underlying3) (nT rfl (mu ti3 rfl) (mu ti3 rfl) (run_equalIn_int w 9998 3 _ _ _ _ Tryz.underlying3) (nT rfl (mu ti3 rfl) (mu ti3 rfl) (run_equalIn_int w 9998 3 _ _ _ _ Tryz.underlying3) (nT rfl (mu ti3 rfl) (mu ti3 rfl) (run_equalIn_int w 9998 3 _ _ _ _ Tryz.underlying3) (LO w)))))
theorem mz3 (w:World):(zeroValue 3).run Tryz.prog w= .ok (.int .i64 0) w:=by kernel_rfl
theorem kk3:KeyOk Tryz.prog 3 (fun n:Int=>Value.int .i64 n) TX iOk:=V9 Tryz.underlying3
theorem ek3:EltOk Tryz.prog 3 (fun n:Int=>Value.int .i64 n) TX iOk 0:=Wa Tryz.underlying3 mz3
def tt:TT:=[(3,⟨false,1,none,y3,[],some 8,none,false,none,none,some (some .i64),false,none⟩),
 (4,⟨false,1,none,y4,[],some 1,none,true,none,none,none,false,none⟩),
 (5,⟨false,1,none,y5,[],some 1,none,false,none,none,some (some .u8),false,none⟩),
 (9,⟨false,1,none,y9,[],some 16,none,false,none,none,some none,false,none⟩),
 (22,⟨false,1,some 179,y22,[],some 24,none,false,none,none,none,false,none⟩),
 (24,⟨true,2,none,y24,[(0,0),(1,0)],some 32,some [(0,1),(1,1)],false,none,none,none,false,none⟩),
 (25,⟨false,1,some 184,y25,[],some 24,none,false,none,none,none,false,none⟩),
 (26,⟨false,1,some 187,y26,[],some 24,none,false,none,none,none,false,none⟩),
 (28,⟨true,2,none,y28,[(0,0),(1,0)],some 48,some [(0,1),(1,1)],false,none,none,none,false,none⟩),
 (29,⟨false,1,some 133,y29,[],some 24,none,false,none,none,none,false,none⟩),
 (31,⟨true,6,none,y31,[(0,1),(2,1),(4,0),(5,0)],some 120,some [(0,2),(2,2),(4,1),(5,1)],false,none,none,none,false,none⟩),
 (34,⟨false,1,some 126,y34,[],some 24,none,false,none,none,none,false,none⟩),
 (36,⟨true,2,none,y36,[(0,0),(1,0)],some 32,some [(0,1),(1,1)],false,none,none,none,false,none⟩),
 (37,⟨false,1,some 189,y37,[],some 24,none,false,none,none,none,false,none⟩),
 (38,⟨false,1,some 137,y38,[],some 24,none,false,none,none,none,false,none⟩),
 (40,⟨true,2,none,y40,[(0,0),(1,0)],some 48,some [(0,1),(1,1)],false,none,none,none,false,none⟩),
 (41,⟨false,1,some 88,y41,[],some 24,none,false,none,none,none,false,none⟩),
 (43,⟨true,6,none,y43,[(0,1),(2,1),(4,0),(5,0)],some 120,some [(0,2),(2,2),(4,1),(5,1)],false,none,none,none,false,none⟩),
 (54,⟨false,1,some 163,y54,[],some 24,none,false,none,none,none,false,none⟩),
 (56,⟨true,1,none,y56,[(0,0)],some 24,some [(0,1)],false,none,none,none,false,none⟩),
 (59,⟨false,1,some 161,y59,[],some 24,none,false,none,none,none,false,none⟩),
 (61,⟨true,1,none,y61,[(0,0)],some 24,some [(0,1)],false,none,none,none,false,none⟩),
 (66,⟨false,1,some 174,y66,[],some 24,none,false,none,none,none,false,none⟩),
 (68,⟨true,1,none,y68,[(0,0)],some 24,some [(0,1)],false,none,none,none,false,none⟩),
 (71,⟨false,1,some 170,y71,[],some 24,none,false,none,none,none,false,none⟩),
 (73,⟨true,1,none,y73,[(0,0)],some 24,some [(0,1)],false,none,none,none,false,none⟩),
 (88,⟨true,3,none,y88,[(0,0),(1,0),(2,0)],some 24,some [(0,1),(1,1),(2,1)],false,none,none,none,false,none⟩),
 (91,⟨false,1,some 3,y91,[],some 24,none,false,none,none,none,false,none⟩),
 (92,⟨false,1,some 73,y92,[],some 24,none,false,none,none,none,false,none⟩),
 (108,⟨false,1,none,.bool,[],none,none,false,none,none,none,true,none⟩),
 (124,⟨false,1,some 168,Vd,[],some 24,none,false,none,none,none,false,none⟩),
 (126,⟨true,2,none,DC,[(0,0),(1,0)],some 48,some [(0,1),(1,1)],false,none,none,none,false,none⟩),
 (133,⟨true,3,none,Yj,[(0,0),(1,0),(2,0)],some 24,some [(0,1),(1,1),(2,1)],false,none,none,none,false,none⟩),
 (134,⟨false,1,none,.bool,[],none,none,false,none,none,none,true,none⟩),
 (137,⟨true,3,none,zS,[(0,0),(1,0),(2,0)],some 40,some [(0,1),(1,1),(2,1)],false,none,none,none,false,none⟩),
 (138,⟨false,1,none,.bool,[],none,none,false,none,none,none,true,none⟩),
 (161,⟨true,4,none,xp,[(0,0),(1,0),(2,0),(3,0)],some 32,some [(0,1),(1,1),(2,1),(3,1)],false,some [some .i64,some .i64,some .i64,some .i64],none,none,false,none⟩),
 (163,⟨true,4,none,Yk,[(0,0),(1,0),(2,0),(3,0)],some 32,some [(0,1),(1,1),(2,1),(3,1)],false,none,none,none,false,none⟩),
 (168,⟨true,4,none,GM,[(0,0),(1,0),(2,0),(3,0)],some 32,some [(0,1),(1,1),(2,1),(3,1)],false,some [some .i64,some .i64,some .i64,some .i64],none,none,false,none⟩),
 (170,⟨true,5,none,Y2,[(0,0),(1,3)],some 40,some [(0,1),(1,4)],false,none,none,none,false,none⟩),
 (172,⟨true,4,none,XJ,[(0,0),(1,0),(2,0),(3,0)],some 32,some [(0,1),(1,1),(2,1),(3,1)],false,none,none,none,false,none⟩),
 (174,⟨true,5,none,Y3,[(0,0),(1,3)],some 40,some [(0,1),(1,4)],false,none,none,none,false,none⟩),
 (177,⟨false,1,some 172,XK,[],some 24,none,false,none,none,none,false,none⟩),
 (179,⟨true,2,none,XL,[(0,0),(1,0)],some 48,some [(0,1),(1,1)],false,none,none,none,false,none⟩),
 (181,⟨false,1,some 4,FR,[],some 24,none,false,none,none,none,false,none⟩),
 (182,⟨false,1,some 91,KM,[],some 24,none,false,none,none,none,false,none⟩),
 (184,⟨true,3,none,XM,[(0,0),(1,0),(2,0)],some 56,some [(0,1),(1,1),(2,1)],false,none,none,none,false,none⟩),
 (187,⟨true,3,none,XN,[(0,0),(1,0),(2,0)],some 40,some [(0,1),(1,1),(2,1)],false,none,none,none,false,none⟩),
 (189,⟨true,3,none,kY,[(0,0),(1,0),(2,0)],some 56,some [(0,1),(1,1),(2,1)],false,none,none,none,false,none⟩),
 (194,⟨false,1,none,.bool,[],none,none,false,none,none,none,true,none⟩),
 (200,⟨false,1,none,.bool,[],none,none,false,none,none,none,true,none⟩),
 (204,⟨false,1,none,.bool,[],none,none,false,none,none,none,true,none⟩),
 (205,⟨false,1,some 9,Yl,[],some 24,none,false,none,none,none,false,none⟩),
 (222,⟨false,1,some 5,Zk,[],some 24,none,false,none,none,none,false,none⟩),
 (230,⟨true,5,none,JB,[(0,0),(1,0),(2,0),(3,0),(4,0)],some 72,some [(0,1),(1,1),(2,1),(3,1),(4,1)],false,none,none,none,false,none⟩),
 (263,⟨true,3,none,Y4,[(0,0),(1,0),(2,0)],some 24,some [(0,1),(1,1),(2,1)],false,none,none,none,false,none⟩),
 (272,⟨true,3,none,Y5,[(0,0),(1,0),(2,0)],some 24,some [(0,1),(1,1),(2,1)],false,none,none,none,false,none⟩),
 (274,⟨false,1,none,Ym,[],some 8,none,false,none,none,none,false,some 302⟩),
 (277,⟨false,1,none,.bool,[],none,none,false,none,none,none,true,none⟩),
 (279,⟨false,1,none,.bool,[],none,none,false,none,none,none,true,none⟩),
 (290,⟨false,1,none,.bool,[],none,none,false,none,none,none,true,none⟩),
 (295,⟨false,1,none,WU,[],some 8,none,false,none,none,some (some .u64),false,none⟩),
 (300,⟨false,1,some 274,XO,[],some 24,none,false,none,none,none,false,none⟩),
 (302,⟨true,5,none,Zl,[(0,3),(4,0)],some 56,some [(0,4),(4,1)],false,none,none,none,false,none⟩),
 (306,⟨false,1,none,.bool,[],none,none,false,none,some ⟨3,3,.int,.int⟩,none,false,none⟩),
 (308,⟨false,1,none,.bool,[],none,none,false,none,none,none,true,none⟩),
 (321,⟨false,1,none,WV,[],some 8,none,false,none,none,some (some .u64),false,none⟩),
 (344,⟨false,1,none,WW,[],some 4,none,false,none,none,some (some .u32),false,none⟩),
 (351,⟨false,1,none,.bool,[],none,none,false,none,none,none,true,none⟩)]
theorem Ve:TTok Tryz.prog tt:=⟨tQ (n:=1) (z:=.int .i64 0) ⟨⟨_,Tryz.underlying3,rfl⟩,by kernel_rfl⟩ rfl (by unfold TZ;kernel_rfl) rfl (bp rfl) (fun h=>by cases h) (fun k h=>by obtain rfl:=ae h;exact Tryz.underlying3),
 tQ (n:=1) (z:=.bool false) ⟨⟨_,Tryz.underlying4,rfl⟩,by kernel_rfl⟩ rfl (by unfold TZ;kernel_rfl) rfl (bp rfl) (fun h=>Tryz.underlying4) (fun k h=>by cases h),
 tQ (n:=1) (z:=.int .u8 0) ⟨⟨_,Tryz.underlying5,rfl⟩,by kernel_rfl⟩ rfl (by unfold TZ;kernel_rfl) rfl (bp rfl) (fun h=>by cases h) (fun k h=>by obtain rfl:=ae h;exact Tryz.underlying5),
 tQ (n:=1) (z:=.string ⟨#[]⟩) ⟨⟨_,Tryz.underlying9,rfl⟩,by kernel_rfl⟩ rfl (by unfold TZ;kernel_rfl) rfl (bp rfl) (fun h=>by cases h) (fun k h=>by obtain rfl:=ae h;exact Tryz.underlying9),
 oD ⟨⟨_,Tryz.underlying22,rfl⟩,by kernel_rfl⟩ Tryz.underlying22 (by unfold TZ;kernel_rfl),
 kM (z:=.agg #[.int .i64 0,.slice none 0 0]) ⟨⟨_,Tryz.underlying24,rfl⟩,by kernel_rfl⟩ rfl ⟨⟨_,_,Tryz.underlying24,rfl,rfl,by kernel_rfl⟩,⟨_,_,Tryz.underlying24,rfl,rfl,by kernel_rfl⟩,trivial⟩ (by unfold TZ;kernel_rfl) rfl (bp rfl) ⟨_,Tryz.underlying24,by kernel_rfl⟩ (fun ks h=>by cases h),
 oD ⟨⟨_,Tryz.underlying25,rfl⟩,by kernel_rfl⟩ Tryz.underlying25 (by unfold TZ;kernel_rfl),
 oD ⟨⟨_,Tryz.underlying26,rfl⟩,by kernel_rfl⟩ Tryz.underlying26 (by unfold TZ;kernel_rfl),
 kM (z:=.agg #[.slice none 0 0,.slice none 0 0]) ⟨⟨_,Tryz.underlying28,rfl⟩,by kernel_rfl⟩ rfl ⟨⟨_,_,Tryz.underlying28,rfl,rfl,by kernel_rfl⟩,⟨_,_,Tryz.underlying28,rfl,rfl,by kernel_rfl⟩,trivial⟩ (by unfold TZ;kernel_rfl) rfl (bp rfl) ⟨_,Tryz.underlying28,by kernel_rfl⟩ (fun ks h=>by cases h),
 oD ⟨⟨_,Tryz.underlying29,rfl⟩,by kernel_rfl⟩ Tryz.underlying29 (by unfold TZ;kernel_rfl),
 kM (z:=.agg #[.int .i64 0,.slice none 0 0,.slice none 0 0,.slice none 0 0,.slice none 0 0,.string ⟨#[]⟩]) ⟨⟨_,Tryz.underlying31,rfl⟩,by kernel_rfl⟩ rfl ⟨⟨_,_,Tryz.underlying31,rfl,rfl,by kernel_rfl⟩,⟨_,_,Tryz.underlying31,rfl,rfl,by kernel_rfl⟩,⟨_,_,Tryz.underlying31,rfl,rfl,by kernel_rfl⟩,⟨_,_,Tryz.underlying31,rfl,rfl,by kernel_rfl⟩,trivial⟩ (by unfold TZ;kernel_rfl) rfl (bp rfl) ⟨_,Tryz.underlying31,by kernel_rfl⟩ (fun ks h=>by cases h),
 oD ⟨⟨_,Tryz.underlying34,rfl⟩,by kernel_rfl⟩ Tryz.underlying34 (by unfold TZ;kernel_rfl),
 kM (z:=.agg #[.int .i64 0,.slice none 0 0]) ⟨⟨_,Tryz.underlying36,rfl⟩,by kernel_rfl⟩ rfl ⟨⟨_,_,Tryz.underlying36,rfl,rfl,by kernel_rfl⟩,⟨_,_,Tryz.underlying36,rfl,rfl,by kernel_rfl⟩,trivial⟩ (by unfold TZ;kernel_rfl) rfl (bp rfl) ⟨_,Tryz.underlying36,by kernel_rfl⟩ (fun ks h=>by cases h),
 oD ⟨⟨_,Tryz.underlying37,rfl⟩,by kernel_rfl⟩ Tryz.underlying37 (by unfold TZ;kernel_rfl),
 oD ⟨⟨_,Tryz.underlying38,rfl⟩,by kernel_rfl⟩ Tryz.underlying38 (by unfold TZ;kernel_rfl),
 kM (z:=.agg #[.slice none 0 0,.slice none 0 0]) ⟨⟨_,Tryz.underlying40,rfl⟩,by kernel_rfl⟩ rfl ⟨⟨_,_,Tryz.underlying40,rfl,rfl,by kernel_rfl⟩,⟨_,_,Tryz.underlying40,rfl,rfl,by kernel_rfl⟩,trivial⟩ (by unfold TZ;kernel_rfl) rfl (bp rfl) ⟨_,Tryz.underlying40,by kernel_rfl⟩ (fun ks h=>by cases h),
 oD ⟨⟨_,Tryz.underlying41,rfl⟩,by kernel_rfl⟩ Tryz.underlying41 (by unfold TZ;kernel_rfl),
 kM (z:=.agg #[.int .i64 0,.slice none 0 0,.slice none 0 0,.slice none 0 0,.slice none 0 0,.string ⟨#[]⟩]) ⟨⟨_,Tryz.underlying43,rfl⟩,by kernel_rfl⟩ rfl ⟨⟨_,_,Tryz.underlying43,rfl,rfl,by kernel_rfl⟩,⟨_,_,Tryz.underlying43,rfl,rfl,by kernel_rfl⟩,⟨_,_,Tryz.underlying43,rfl,rfl,by kernel_rfl⟩,⟨_,_,Tryz.underlying43,rfl,rfl,by kernel_rfl⟩,trivial⟩ (by unfold TZ;kernel_rfl) rfl (bp rfl) ⟨_,Tryz.underlying43,by kernel_rfl⟩ (fun ks h=>by cases h),
 oD ⟨⟨_,Tryz.underlying54,rfl⟩,by kernel_rfl⟩ Tryz.underlying54 (by unfold TZ;kernel_rfl),
 kM (z:=.agg #[.slice none 0 0]) ⟨⟨_,Tryz.underlying56,rfl⟩,by kernel_rfl⟩ rfl ⟨⟨_,_,Tryz.underlying56,rfl,rfl,by kernel_rfl⟩,trivial⟩ (by unfold TZ;kernel_rfl) rfl (bp rfl) ⟨_,Tryz.underlying56,by kernel_rfl⟩ (fun ks h=>by cases h),
 oD ⟨⟨_,Tryz.underlying59,rfl⟩,by kernel_rfl⟩ Tryz.underlying59 (by unfold TZ;kernel_rfl),
 kM (z:=.agg #[.slice none 0 0]) ⟨⟨_,Tryz.underlying61,rfl⟩,by kernel_rfl⟩ rfl ⟨⟨_,_,Tryz.underlying61,rfl,rfl,by kernel_rfl⟩,trivial⟩ (by unfold TZ;kernel_rfl) rfl (bp rfl) ⟨_,Tryz.underlying61,by kernel_rfl⟩ (fun ks h=>by cases h),
 oD ⟨⟨_,Tryz.underlying66,rfl⟩,by kernel_rfl⟩ Tryz.underlying66 (by unfold TZ;kernel_rfl),
 kM (z:=.agg #[.slice none 0 0]) ⟨⟨_,Tryz.underlying68,rfl⟩,by kernel_rfl⟩ rfl ⟨⟨_,_,Tryz.underlying68,rfl,rfl,by kernel_rfl⟩,trivial⟩ (by unfold TZ;kernel_rfl) rfl (bp rfl) ⟨_,Tryz.underlying68,by kernel_rfl⟩ (fun ks h=>by cases h),
 oD ⟨⟨_,Tryz.underlying71,rfl⟩,by kernel_rfl⟩ Tryz.underlying71 (by unfold TZ;kernel_rfl),
 kM (z:=.agg #[.slice none 0 0]) ⟨⟨_,Tryz.underlying73,rfl⟩,by kernel_rfl⟩ rfl ⟨⟨_,_,Tryz.underlying73,rfl,rfl,by kernel_rfl⟩,trivial⟩ (by unfold TZ;kernel_rfl) rfl (bp rfl) ⟨_,Tryz.underlying73,by kernel_rfl⟩ (fun ks h=>by cases h),
 kM (z:=.agg #[.int .i64 0,.int .i64 0,.int .i64 0]) ⟨⟨_,Tryz.underlying88,rfl⟩,by kernel_rfl⟩ rfl ⟨⟨_,_,Tryz.underlying88,rfl,rfl,by kernel_rfl⟩,⟨_,_,Tryz.underlying88,rfl,rfl,by kernel_rfl⟩,⟨_,_,Tryz.underlying88,rfl,rfl,by kernel_rfl⟩,trivial⟩ (by unfold TZ;kernel_rfl) rfl (bp rfl) ⟨_,Tryz.underlying88,by kernel_rfl⟩ (fun ks h=>by cases h),
 oD ⟨⟨_,Tryz.underlying91,rfl⟩,by kernel_rfl⟩ Tryz.underlying91 (by unfold TZ;kernel_rfl),
 oD ⟨⟨_,Tryz.underlying92,rfl⟩,by kernel_rfl⟩ Tryz.underlying92 (by unfold TZ;kernel_rfl),
 zQ (ty:=.bool) (b:=8) ⟨⟨_,Tryz.underlying108,rfl⟩,by kernel_rfl⟩ rfl (by unfold TZ;kernel_rfl),
 oD ⟨⟨_,Tryz.underlying124,rfl⟩,by kernel_rfl⟩ Tryz.underlying124 (by unfold TZ;kernel_rfl),
 kM (z:=.agg #[.slice none 0 0,.slice none 0 0]) ⟨⟨_,Tryz.underlying126,rfl⟩,by kernel_rfl⟩ rfl ⟨⟨_,_,Tryz.underlying126,rfl,rfl,by kernel_rfl⟩,⟨_,_,Tryz.underlying126,rfl,rfl,by kernel_rfl⟩,trivial⟩ (by unfold TZ;kernel_rfl) rfl (bp rfl) ⟨_,Tryz.underlying126,by kernel_rfl⟩ (fun ks h=>by cases h),
 kM (z:=.agg #[.int .i64 0,.int .i64 0,.int .i64 0]) ⟨⟨_,Tryz.underlying133,rfl⟩,by kernel_rfl⟩ rfl ⟨⟨_,_,Tryz.underlying133,rfl,rfl,by kernel_rfl⟩,⟨_,_,Tryz.underlying133,rfl,rfl,by kernel_rfl⟩,⟨_,_,Tryz.underlying133,rfl,rfl,by kernel_rfl⟩,trivial⟩ (by unfold TZ;kernel_rfl) rfl (bp rfl) ⟨_,Tryz.underlying133,by kernel_rfl⟩ (fun ks h=>by cases h),
 zQ (ty:=.bool) (b:=8) ⟨⟨_,Tryz.underlying134,rfl⟩,by kernel_rfl⟩ rfl (by unfold TZ;kernel_rfl),
 kM (z:=.agg #[.int .i64 0,.slice none 0 0,.int .i64 0]) ⟨⟨_,Tryz.underlying137,rfl⟩,by kernel_rfl⟩ rfl ⟨⟨_,_,Tryz.underlying137,rfl,rfl,by kernel_rfl⟩,⟨_,_,Tryz.underlying137,rfl,rfl,by kernel_rfl⟩,⟨_,_,Tryz.underlying137,rfl,rfl,by kernel_rfl⟩,trivial⟩ (by unfold TZ;kernel_rfl) rfl (bp rfl) ⟨_,Tryz.underlying137,by kernel_rfl⟩ (fun ks h=>by cases h),
 zQ (ty:=.bool) (b:=8) ⟨⟨_,Tryz.underlying138,rfl⟩,by kernel_rfl⟩ rfl (by unfold TZ;kernel_rfl),
 kM (z:=.agg #[.int .i64 0,.int .i64 0,.int .i64 0,.int .i64 0]) ⟨⟨_,Tryz.underlying161,rfl⟩,by kernel_rfl⟩ rfl ⟨⟨_,_,Tryz.underlying161,rfl,rfl,by kernel_rfl⟩,⟨_,_,Tryz.underlying161,rfl,rfl,by kernel_rfl⟩,⟨_,_,Tryz.underlying161,rfl,rfl,by kernel_rfl⟩,⟨_,_,Tryz.underlying161,rfl,rfl,by kernel_rfl⟩,trivial⟩ (by unfold TZ;kernel_rfl) rfl (bp rfl) ⟨_,Tryz.underlying161,by kernel_rfl⟩ (fun ks h=>by obtain rfl:=ae h;exact fun w a0 b0 a1 b1 a2 b2 a3 b3=>WX a0 a1 a2 a3 b0 b1 b2 b3 w),
 kM (z:=.agg #[.int .i64 0,.int .i64 0,.int .i64 0,.int .i64 0]) ⟨⟨_,Tryz.underlying163,rfl⟩,by kernel_rfl⟩ rfl ⟨⟨_,_,Tryz.underlying163,rfl,rfl,by kernel_rfl⟩,⟨_,_,Tryz.underlying163,rfl,rfl,by kernel_rfl⟩,⟨_,_,Tryz.underlying163,rfl,rfl,by kernel_rfl⟩,⟨_,_,Tryz.underlying163,rfl,rfl,by kernel_rfl⟩,trivial⟩ (by unfold TZ;kernel_rfl) rfl (bp rfl) ⟨_,Tryz.underlying163,by kernel_rfl⟩ (fun ks h=>by cases h),
 kM (z:=.agg #[.int .i64 0,.int .i64 0,.int .i64 0,.int .i64 0]) ⟨⟨_,Tryz.underlying168,rfl⟩,by kernel_rfl⟩ rfl ⟨⟨_,_,Tryz.underlying168,rfl,rfl,by kernel_rfl⟩,⟨_,_,Tryz.underlying168,rfl,rfl,by kernel_rfl⟩,⟨_,_,Tryz.underlying168,rfl,rfl,by kernel_rfl⟩,⟨_,_,Tryz.underlying168,rfl,rfl,by kernel_rfl⟩,trivial⟩ (by unfold TZ;kernel_rfl) rfl (bp rfl) ⟨_,Tryz.underlying168,by kernel_rfl⟩ (fun ks h=>by obtain rfl:=ae h;exact fun w a0 b0 a1 b1 a2 b2 a3 b3=>WY a0 a1 a2 a3 b0 b1 b2 b3 w),
 kM (z:=.agg #[.bool false,.int .i64 0,.int .i64 0,.int .i64 0,.int .i64 0]) ⟨⟨_,Tryz.underlying170,rfl⟩,by kernel_rfl⟩ rfl ⟨⟨_,_,Tryz.underlying170,rfl,rfl,by kernel_rfl⟩,⟨_,_,Tryz.underlying170,rfl,rfl,by kernel_rfl⟩,trivial⟩ (by unfold TZ;kernel_rfl) rfl (bp rfl) ⟨_,Tryz.underlying170,by kernel_rfl⟩ (fun ks h=>by cases h),
 kM (z:=.agg #[.int .i64 0,.int .i64 0,.int .i64 0,.int .i64 0]) ⟨⟨_,Tryz.underlying172,rfl⟩,by kernel_rfl⟩ rfl ⟨⟨_,_,Tryz.underlying172,rfl,rfl,by kernel_rfl⟩,⟨_,_,Tryz.underlying172,rfl,rfl,by kernel_rfl⟩,⟨_,_,Tryz.underlying172,rfl,rfl,by kernel_rfl⟩,⟨_,_,Tryz.underlying172,rfl,rfl,by kernel_rfl⟩,trivial⟩ (by unfold TZ;kernel_rfl) rfl (bp rfl) ⟨_,Tryz.underlying172,by kernel_rfl⟩ (fun ks h=>by cases h),
 kM (z:=.agg #[.bool false,.int .i64 0,.int .i64 0,.int .i64 0,.int .i64 0]) ⟨⟨_,Tryz.underlying174,rfl⟩,by kernel_rfl⟩ rfl ⟨⟨_,_,Tryz.underlying174,rfl,rfl,by kernel_rfl⟩,⟨_,_,Tryz.underlying174,rfl,rfl,by kernel_rfl⟩,trivial⟩ (by unfold TZ;kernel_rfl) rfl (bp rfl) ⟨_,Tryz.underlying174,by kernel_rfl⟩ (fun ks h=>by cases h),
 oD ⟨⟨_,Tryz.underlying177,rfl⟩,by kernel_rfl⟩ Tryz.underlying177 (by unfold TZ;kernel_rfl),
 kM (z:=.agg #[.slice none 0 0,.slice none 0 0]) ⟨⟨_,Tryz.underlying179,rfl⟩,by kernel_rfl⟩ rfl ⟨⟨_,_,Tryz.underlying179,rfl,rfl,by kernel_rfl⟩,⟨_,_,Tryz.underlying179,rfl,rfl,by kernel_rfl⟩,trivial⟩ (by unfold TZ;kernel_rfl) rfl (bp rfl) ⟨_,Tryz.underlying179,by kernel_rfl⟩ (fun ks h=>by cases h),
 oD ⟨⟨_,Tryz.underlying181,rfl⟩,by kernel_rfl⟩ Tryz.underlying181 (by unfold TZ;kernel_rfl),
 oD ⟨⟨_,Tryz.underlying182,rfl⟩,by kernel_rfl⟩ Tryz.underlying182 (by unfold TZ;kernel_rfl),
 kM (z:=.agg #[.int .i64 0,.slice none 0 0,.slice none 0 0]) ⟨⟨_,Tryz.underlying184,rfl⟩,by kernel_rfl⟩ rfl ⟨⟨_,_,Tryz.underlying184,rfl,rfl,by kernel_rfl⟩,⟨_,_,Tryz.underlying184,rfl,rfl,by kernel_rfl⟩,⟨_,_,Tryz.underlying184,rfl,rfl,by kernel_rfl⟩,trivial⟩ (by unfold TZ;kernel_rfl) rfl (bp rfl) ⟨_,Tryz.underlying184,by kernel_rfl⟩ (fun ks h=>by cases h),
 kM (z:=.agg #[.int .i64 0,.slice none 0 0,.int .i64 0]) ⟨⟨_,Tryz.underlying187,rfl⟩,by kernel_rfl⟩ rfl ⟨⟨_,_,Tryz.underlying187,rfl,rfl,by kernel_rfl⟩,⟨_,_,Tryz.underlying187,rfl,rfl,by kernel_rfl⟩,⟨_,_,Tryz.underlying187,rfl,rfl,by kernel_rfl⟩,trivial⟩ (by unfold TZ;kernel_rfl) rfl (bp rfl) ⟨_,Tryz.underlying187,by kernel_rfl⟩ (fun ks h=>by cases h),
 kM (z:=.agg #[.int .i64 0,.slice none 0 0,.slice none 0 0]) ⟨⟨_,Tryz.underlying189,rfl⟩,by kernel_rfl⟩ rfl ⟨⟨_,_,Tryz.underlying189,rfl,rfl,by kernel_rfl⟩,⟨_,_,Tryz.underlying189,rfl,rfl,by kernel_rfl⟩,⟨_,_,Tryz.underlying189,rfl,rfl,by kernel_rfl⟩,trivial⟩ (by unfold TZ;kernel_rfl) rfl (bp rfl) ⟨_,Tryz.underlying189,by kernel_rfl⟩ (fun ks h=>by cases h),
 zQ (ty:=.bool) (b:=8) ⟨⟨_,Tryz.underlying194,rfl⟩,by kernel_rfl⟩ rfl (by unfold TZ;kernel_rfl),
 zQ (ty:=.bool) (b:=8) ⟨⟨_,Tryz.underlying200,rfl⟩,by kernel_rfl⟩ rfl (by unfold TZ;kernel_rfl),
 zQ (ty:=.bool) (b:=8) ⟨⟨_,Tryz.underlying204,rfl⟩,by kernel_rfl⟩ rfl (by unfold TZ;kernel_rfl),
 oD ⟨⟨_,Tryz.underlying205,rfl⟩,by kernel_rfl⟩ Tryz.underlying205 (by unfold TZ;kernel_rfl),
 oD ⟨⟨_,Tryz.underlying222,rfl⟩,by kernel_rfl⟩ Tryz.underlying222 (by unfold TZ;kernel_rfl),
 kM (z:=.agg #[.slice none 0 0,.int .i64 0,.int .i64 0,.slice none 0 0,.bool false]) ⟨⟨_,Tryz.underlying230,rfl⟩,by kernel_rfl⟩ rfl ⟨⟨_,_,Tryz.underlying230,rfl,rfl,by kernel_rfl⟩,⟨_,_,Tryz.underlying230,rfl,rfl,by kernel_rfl⟩,⟨_,_,Tryz.underlying230,rfl,rfl,by kernel_rfl⟩,⟨_,_,Tryz.underlying230,rfl,rfl,by kernel_rfl⟩,⟨_,_,Tryz.underlying230,rfl,rfl,by kernel_rfl⟩,trivial⟩ (by unfold TZ;kernel_rfl) rfl (bp rfl) ⟨_,Tryz.underlying230,by kernel_rfl⟩ (fun ks h=>by cases h),
 kM (z:=.agg #[.bool false,.int .i64 0,.int .i64 0]) ⟨⟨_,Tryz.underlying263,rfl⟩,by kernel_rfl⟩ rfl ⟨⟨_,_,Tryz.underlying263,rfl,rfl,by kernel_rfl⟩,⟨_,_,Tryz.underlying263,rfl,rfl,by kernel_rfl⟩,⟨_,_,Tryz.underlying263,rfl,rfl,by kernel_rfl⟩,trivial⟩ (by unfold TZ;kernel_rfl) rfl (bp rfl) ⟨_,Tryz.underlying263,by kernel_rfl⟩ (fun ks h=>by cases h),
 kM (z:=.agg #[.int .i64 0,.int .i64 0,.bool false]) ⟨⟨_,Tryz.underlying272,rfl⟩,by kernel_rfl⟩ rfl ⟨⟨_,_,Tryz.underlying272,rfl,rfl,by kernel_rfl⟩,⟨_,_,Tryz.underlying272,rfl,rfl,by kernel_rfl⟩,⟨_,_,Tryz.underlying272,rfl,rfl,by kernel_rfl⟩,trivial⟩ (by unfold TZ;kernel_rfl) rfl (bp rfl) ⟨_,Tryz.underlying272,by kernel_rfl⟩ (fun ks h=>by cases h),
 Yi (e:=302) (E:=274) (u:=xp) ⟨⟨_,Tryz.underlying274,rfl⟩,by kernel_rfl⟩ Tryz.underlying274 (by unfold TZ;kernel_rfl),
 zQ (ty:=.bool) (b:=8) ⟨⟨_,Tryz.underlying277,rfl⟩,by kernel_rfl⟩ rfl (by unfold TZ;kernel_rfl),
 zQ (ty:=.bool) (b:=8) ⟨⟨_,Tryz.underlying279,rfl⟩,by kernel_rfl⟩ rfl (by unfold TZ;kernel_rfl),
 zQ (ty:=.bool) (b:=8) ⟨⟨_,Tryz.underlying290,rfl⟩,by kernel_rfl⟩ rfl (by unfold TZ;kernel_rfl),
 tQ (n:=1) (z:=.int .u64 0) ⟨⟨_,Tryz.underlying295,rfl⟩,by kernel_rfl⟩ rfl (by unfold TZ;kernel_rfl) rfl (bp rfl) (fun h=>by cases h) (fun k h=>by obtain rfl:=ae h;exact Tryz.underlying295),
 oD ⟨⟨_,Tryz.underlying300,rfl⟩,by kernel_rfl⟩ Tryz.underlying300 (by unfold TZ;kernel_rfl),
 kM (z:=.agg #[.int .i64 0,.int .i64 0,.int .i64 0,.int .i64 0,.slice none 0 0]) ⟨⟨_,Tryz.underlying302,rfl⟩,by kernel_rfl⟩ rfl ⟨⟨_,_,Tryz.underlying302,rfl,rfl,by kernel_rfl⟩,⟨_,_,Tryz.underlying302,rfl,rfl,by kernel_rfl⟩,trivial⟩ (by unfold TZ;kernel_rfl) rfl (bp rfl) ⟨_,Tryz.underlying302,by kernel_rfl⟩ (fun ks h=>by cases h),
 Yh (m:=⟨3,3,.int,.int⟩) (ty:=.bool) ⟨⟨_,Tryz.underlying306,rfl⟩,by kernel_rfl⟩ rfl ⟨Tryz.underlying306,kk3,ek3⟩,
 zQ (ty:=.bool) (b:=8) ⟨⟨_,Tryz.underlying308,rfl⟩,by kernel_rfl⟩ rfl (by unfold TZ;kernel_rfl),
 tQ (n:=1) (z:=.int .u64 0) ⟨⟨_,Tryz.underlying321,rfl⟩,by kernel_rfl⟩ rfl (by unfold TZ;kernel_rfl) rfl (bp rfl) (fun h=>by cases h) (fun k h=>by obtain rfl:=ae h;exact Tryz.underlying321),
 tQ (n:=1) (z:=.int .u32 0) ⟨⟨_,Tryz.underlying344,rfl⟩,by kernel_rfl⟩ rfl (by unfold TZ;kernel_rfl) rfl (bp rfl) (fun h=>by cases h) (fun k h=>by obtain rfl:=ae h;exact Tryz.underlying344),
 zQ (ty:=.bool) (b:=8) ⟨⟨_,Tryz.underlying351,rfl⟩,by kernel_rfl⟩ rfl (by unfold TZ;kernel_rfl),trivial⟩
theorem mixed:Tryz.prog.follows .mixedOrders=true:=by kernel_rfl
def SQ (fn:Func):Code:=match fn.body with
 | some c=>c
 | none=>.skip
theorem fk {k:FuncId} {fn:Func} {f:FS} (ft:FT) (hF:FTok Tryz.prog ft) (hf:Tryz.prog.funcs[k]? =some fn) (ann:Ann) (an:List (Nat×Ty):=[]) (tr:Trs:=[]) (hb:fn.body=some (SQ fn):=by rfl) (he:(fn.name == "runtime.NumGoroutine")=false:=by kernel_rfl) (hcl:f.cl=none:=by rfl) (hm:Nat.ble f.ps.length fn.ntmps=true:=by rfl) (hdp:(E7 f.rs&&zq f.ps)=true:=by rfl)
  (hmod: ∀d,appP f.ps f.m d=j6 ⟨tt,ft,an,fn.ntmps,tr⟩ (NN ⟨tt,ft,an,fn.ntmps,tr⟩ fn.results.toList f.rs f.ps d) (SQ fn) ann (fun r=>some r) (fun _ _=>none) (NN ⟨tt,ft,an,fn.ntmps,tr⟩ fn.results.toList f.rs f.ps d) (qQ (zO f.ps d)):=by intro d;kernel_rfl):FOk Tryz.prog k f:=
 fok (V:=⟨tt,ft,an,fn.ntmps,tr⟩) Ve hF mixed hf hb rfl (enters_of hf he hb) hcl (bp hm) hdp ann hmod
def wB:FS:=⟨[.rd y91,.rd y3],[y3],sq,none⟩
def zT:FS:=⟨[.rd XK,.rd y3],[y3],tR,none⟩
def zU:FS:=⟨[.rd XL,.rd y3],[y3],pP,none⟩
def xq:FS:=⟨[.rd y22,.rd y3],[y3],rk,none⟩
def vd:FS:=⟨[.rd y24,.rd y3],[y3],mB,none⟩
def zV:FS:=⟨[.rd FR,.rd y3],[y3],tS,none⟩
def zW:FS:=⟨[.rd KM,.rd y3],[y3],tT,none⟩
def rq:FS:=⟨[.rd XM,.rd y3],[y3],j9,none⟩
def qo:FS:=⟨[.rd y25,.rd y3],[y3],me,none⟩
def xr:FS:=⟨[.rd y54,.rd y3],[y3],rl,none⟩
def Ck:FS:=⟨[.rd y56,.rd y3],[y3],su,none⟩
def qp:FS:=⟨[.rd XN,.rd y3],[y3],jc,none⟩
def oZ:FS:=⟨[.rd y26,.rd y3],[y3],kR,none⟩
def sV:FS:=⟨[.rd y28,.rd y3],[y3],lr,none⟩
def o0:FS:=⟨[.rd y29,.rd y3],[y3],kS,none⟩
def xt:FS:=⟨[.rd y31,.rd y3],[y3],nY,none⟩
def kD:FS:=⟨[.rd y3,.rd y3,.rd y3],[y4],cD,none⟩
def Cl:FS:=⟨[.rd DC,.rd GM],[y4],Cj,none⟩
def qq:FS:=⟨[.rd DC],[y4],gk,none⟩
def ve:FS:=⟨[.rd y91,.rd y91],[y3],ng,none⟩
def gG:FS:=⟨[.rd y36],[y4],m_s_IsValidHistory,none⟩
def rr:FS:=⟨[.rd y3],[y4],lV,none⟩
def ub:FS:=⟨[.rd xp],[y3],nh,none⟩
def Cm:FS:=⟨[.rd y61],[y4],sv,none⟩
def ru:FS:=⟨[.rd y61],[y4],ka,none⟩
def qb:FS:=⟨[.rd y59],[y3],gP,none⟩
def qc (n:Nat):FS:=⟨[.rd y59],[y3],dK n,none⟩
def sE:FS:=⟨[.rd y59],[y61],gr,none⟩
def wC:FS:=⟨[.rd y61,.rd y61,.rd xp],[y61],kT,none⟩
def Cn:FS:=⟨[.rd y3],[y61],oT,none⟩
def oe (n:Nat):FS:=⟨[.rd y61,.rd y3,.rd y3],[y61],jH n,none⟩
def mN (n:Nat):FS:=⟨[.rd y59],[y61],cK n,none⟩
def sW:FS:=⟨[.rd y61],[y61,y4],lx,none⟩
def zX:FS:=⟨[.ptr 230 JB,.rd y3,.rd y3],[],ni,none⟩
def oh (n:Nat):FS:=⟨[.ptr 230 JB,.rd y59],[Y4],cZ n,none⟩
def oi:FS:=⟨[.rd y61],[JB,y4],gB,none⟩
def xu:FS:=⟨[.rd JB,.rd y3,.rd y3],[y3],n7,none⟩
def uc:FS:=⟨[.rd y91,.rd y3],[y3],nj,none⟩
def sX:FS:=⟨[.rd JB,.rd y3],[y4],lz,none⟩
def sY:FS:=⟨[.rd JB,.rd y3],[kY,y4],iS,none⟩
def sZ:FS:=⟨[],[kY],oF,none⟩
def vf:FS:=⟨[.rd kY,.rd y91,.rd FR],[kY],iw,none⟩
def ud:FS:=⟨[.rd kY],[FR],kU,none⟩
def Co:FS:=⟨[.rd kY,.rd y91,.rd y3],[y91],oU,none⟩
def ta:FS:=⟨[.rd kY],[y91],iV,none⟩
def rv:FS:=⟨[.rd kY],[kY],gS,none⟩
def ry:FS:=⟨[.rd y61],[kY,y4],gT,none⟩
def kZ:FS:=⟨[.rd kY,.rd kY],[y4],fw,none⟩
def xw:FS:=⟨[.rd y37,.rd kY],[y3],lW,none⟩
def xx:FS:=⟨[.rd y38],[y40,y4],n8,none⟩
def tc:FS:=⟨[.rd y61,.rd y61],[y4],lB,none⟩
def np:FS:=⟨[.rd y40,.rd y40],[y4],fP,none⟩
def nr:FS:=⟨[.rd y40],[y4],fQ,none⟩
def iI:FS:=⟨[.rd y36],[y3],bX,none⟩
def vh:FS:=⟨[.rd y40,.rd y3],[y3],kc,none⟩
def zY:FS:=⟨[.rd y43],[y4],tU,none⟩
def mO:FS:=⟨[.rd y3],[y9],bY,none⟩
def mi:FS:=⟨[.rd y3],[y9],eB,none⟩
def oG:FS:=⟨[.rd GM],[y9],iW,none⟩
def nt:FS:=⟨[.rd y73],[y9],cL,none⟩
def xy:FS:=⟨[.rd y9],[y3],fG,none⟩
def mj:FS:=⟨[.rd y3,.rd y73],[y9],dn,none⟩
def vi:FS:=⟨[.rd y9,.rd y5],[Yl],gV,none⟩
def rz:FS:=⟨[.rd y9],[y3,y4],fH,none⟩
def rA:FS:=⟨[.rd y9],[y3,y4],fy,none⟩
def vj:FS:=⟨[.rd y9],[GM,y4],fR,none⟩
def tf:FS:=⟨[.rd y9],[y73,y4],dE,none⟩
def qu:FS:=⟨[.rd y9],[y3,y73,y4],je,none⟩
def ue:FS:=⟨[.rd y9],[y91,.sl 73 (.bag y73),y3],m_s_ScanLog,none⟩
def Cp:FS:=⟨[.rd y43],[y4],wz,none⟩
def o6:FS:=⟨[.rd y43],[y4],fA,none⟩
def wD:FS:=⟨[.rd y91],[y91],oV,none⟩
def Cq:FS:=⟨[.rd XJ],[GM],sw,none⟩
def zZ:FS:=⟨[.rd XK],[Vd],pR,none⟩
def Aa:FS:=⟨[.rd XL],[DC],pS,none⟩
def xz:FS:=⟨[.rd y22],[y34],oc,none⟩
def vk:FS:=⟨[.rd y24],[y36],mE,none⟩
def Ab:FS:=⟨[.rd FR],[FR],pT,none⟩
def Ac:FS:=⟨[.rd KM],[KM],pU,none⟩
def rB:FS:=⟨[.rd XM],[kY],kg,none⟩
def qv:FS:=⟨[.rd y25],[y37],jf,none⟩
def Ad:FS:=⟨[.rd Yk],[xp],pV,none⟩
def xA:FS:=⟨[.rd y54],[y59],od,none⟩
def Cr:FS:=⟨[.rd y56],[y61],sx,none⟩
def qw:FS:=⟨[.rd XN],[zS],jg,none⟩
def o7:FS:=⟨[.rd y26],[y38],iy,none⟩
def tg:FS:=⟨[.rd y28],[y40],lF,none⟩
def qx:FS:=⟨[.rd Yj],[y88],jh,none⟩
def o8:FS:=⟨[.rd y29],[y41],iz,none⟩
def xB:FS:=⟨[.rd y31],[y43],gX,none⟩
def gx:FS:=⟨[.rd y3,.rd y3,.rd y3],[y4],bU,none⟩
def wE:FS:=⟨[.rd GM,.rd y3],[y4],jI,none⟩
def qy:FS:=⟨[.rd DC],[y4],cr,none⟩
def cQ:FS:=⟨[.rd y91,.rd y91],[y4],b8,none⟩
def gH:FS:=⟨[.rd y36],[y4],m_i_IsValidHistory,none⟩
def rC:FS:=⟨[.rd y3],[y4],jJ,none⟩
def Ae:FS:=⟨[.rd xp],[y4],pW,none⟩
def bG:FS:=⟨[.rd XO],[XO],fun _=>none,some (274,8)⟩
def sF:FS:=⟨[.rd y61],[t274],mS,none⟩
def Cs:FS:=⟨[.rd y61],[y4],sy,none⟩
def rD:FS:=⟨[.rd y61],[y4],kj,none⟩
def lR (n:Nat):FS:=⟨[.rd t274],[y3],bP n,none⟩
def JC:FS:=⟨[.rd y3],[t274],DB,none⟩
def oj (n:Nat):FS:=⟨[.eat t274,.rd y3,.rd y3],[t274],jK n,none⟩
def kE (n:Nat):FS:=⟨[.rd t274],[t274],bB n,none⟩
def jx (n:Nat):FS:=⟨[.rd t274,.ptr 61 y61],[],bz n,none⟩
def vl:FS:=⟨[.rd t274],[y61],pY,none⟩
def th:FS:=⟨[.rd y61],[y61,y4],lG,none⟩
def mw:FS:=⟨[.ptr 230 JB,.rd y3,.rd y3],[],du,none⟩
def gg (n:Nat):FS:=⟨[.ptr 230 JB,.rd t274],[Y5],bC n,none⟩
def om:FS:=⟨[.rd y61],[JB,y4],gC,none⟩
def mn:FS:=⟨[.rd y3,.rd y3,.fn [y3] [y4],.fn [y3,y3] [y3,y4]],[kY,y4],eC,none⟩
def l7:FS:=⟨[.rd JB,.rd y3],[y4],db,none⟩
def nw:FS:=⟨[.rd JB,.rd y3,.rd y3],[y3],fT,none⟩
def o9:FS:=⟨[.rd y3,.rd y3,.cap 230 JB],[y3,y4],cV,none⟩
def rE:FS:=⟨[.rd JB,.rd y3],[kY,y4],gY,none⟩
def bL:FS:=⟨[.rd FR],[FR],fun _=>none,some (4,1)⟩
def oo:FS:=⟨[.rd kY],[FR],eI,none⟩
def dZ:FS:=⟨[.rd KM,.fn [y91] [y4]],[y3],bR,none⟩
def kN:FS:=⟨[.rd y91,.cap 91 y91],[y4],gz,none⟩
def my:FS:=⟨[.rd kY,.rd y91],[y91,y3],dw,none⟩
def l8:FS:=⟨[.rd kY],[y91],dh,none⟩
def ny:FS:=⟨[.rd WW,.rd WW],[WW,WW],tV,none⟩
def nz:FS:=⟨[.rd WV,.rd WV],[WV,WV],nk,none⟩
def pa:FS:=⟨[.rd WU,.rd WU],[WU,WU],oW,none⟩
def ic:FS:=⟨[.rd y91,.rd y3],[y91],hH,none⟩
def Af:FS:=⟨[],[kY],tW,none⟩
def iN:FS:=⟨[.rd y91,.rd y3],[y3],eu,none⟩
def jM:FS:=⟨[.rd y3,.cap 91 y91],[y3],a8,none⟩
def jN:FS:=⟨[.rd y3,.cap 189 kY,.capf 308 [y3] [y3]],[y4],cy,none⟩
def oq:FS:=⟨[.rd kY,.rd y3,.rd y3],[y3],eJ,none⟩
def jO:FS:=⟨[.rd y3,.rd y3,.cap 189 kY,.capf 308 [y3] [y3],.cap 91 y91],[y3,y4],cz,none⟩
def kO:FS:=⟨[.rd kY],[kY],cT,none⟩
def FU:FS:=⟨[.rd kY],[kY,y4],zR,none⟩
def rF:FS:=⟨[.rd y61],[kY,y4],hO,none⟩
def cP:FS:=⟨[.rd y37,.fn [kY] [y4]],[y3],a7,none⟩
def gI:FS:=⟨[.rd FR,.rd FR],[y4],dB,none⟩
def cg:FS:=⟨[.rd KM,.rd KM,.fn [y91,y91] [y4]],[y4],bJ,none⟩
def nA:FS:=⟨[.rd y91,.rd y91],[y4],fU,none⟩
def k7:FS:=⟨[.rd kY,.rd kY],[y4],dI,none⟩
def xC:FS:=⟨[.rd kY,.cap 189 kY],[y4],lY,none⟩
def rG:FS:=⟨[.rd y61],[y61],fI,none⟩
def Ct:FS:=⟨[.rd y38],[y40,y4],sA,none⟩
def bE:FS:=⟨[.rd y37,.rd y37,.fn [kY,kY] [y4]],[y4],aY,none⟩
def bA:FS:=⟨[.rd y38,.rd y38,.fn [zS,zS] [y4]],[y4],aU,none⟩
def fK:FS:=⟨[.rd y59,.rd y59],[y4],cf,none⟩
def tj:FS:=⟨[.rd y61,.rd y61],[y4],lH,none⟩
def qz:FS:=⟨[.rd zS,.rd zS],[y4],gm,none⟩
def nB:FS:=⟨[.rd y40,.rd y40],[y4],fV,none⟩
def nC:FS:=⟨[.rd y40],[y4],fW,none⟩
def k8:FS:=⟨[.rd y36],[y3],fC,none⟩
def cF:FS:=⟨[.rd y38,.fn [zS] [y4]],[y3],bQ,none⟩
def rH:FS:=⟨[.rd zS,.cap 3 y3],[y4],km,none⟩
def vm:FS:=⟨[.rd y40,.rd y3],[y3],ko,none⟩
def l9:FS:=⟨[.rd y9,.rd y5],[.int .i64],eK,none⟩
def qA:FS:=⟨[.rd y3],[.str],mf,none⟩
def qd:FS:=⟨[.rd y3],[y9],cW,none⟩
def oH:FS:=⟨[.rd GM],[y9],iX,none⟩
def qB:FS:=⟨[.rd Yl,.rd y9],[.str],ji,none⟩
def nD:FS:=⟨[.rd y73],[y9],dN,none⟩
def xD:FS:=⟨[.rd y9],[y3],jL,none⟩
def mo:FS:=⟨[.rd y3,.rd y73],[y9],eD,none⟩
def k9:FS:=⟨[.rd y9,.rd y9],[.sl 9 .str],cA,none⟩
def rI:FS:=⟨[.rd y9],[.int .i64,.bool],fJ,none⟩
def rJ:FS:=⟨[.rd y9,.rd y9],[.str,.str,.bool],cO,none⟩
def vn:FS:=⟨[.rd y9],[GM,y4],fX,none⟩
def tk:FS:=⟨[.rd y9],[y73,y4],dF,none⟩
def qC:FS:=⟨[.rd y9],[y3,y73,y4],jj,none⟩
def uf:FS:=⟨[.rd y9],[y91,.sl 73 (.bag y73),y3],m_i_ScanLog,none⟩
def pb:FS:=⟨[.rd y43],[y4],iA,none⟩
def wF:FS:=⟨[.rd y91,.rd y91],[y4],sB,none⟩
def Cu:FS:=⟨[.rd GM,.rd GM],[y4],sC,none⟩
def Ag:FS:=⟨[.rd Vd,.rd Vd],[y4],tX,none⟩
def Ah:FS:=⟨[.rd DC,.rd DC],[y4],pZ,none⟩
def xE:FS:=⟨[.rd y34,.rd y34],[y4],rm,none⟩
def vo:FS:=⟨[.rd y36,.rd y36],[y4],mG,none⟩
def Ai:FS:=⟨[.rd FR,.rd FR],[y4],tY,none⟩
def Aj:FS:=⟨[.rd KM,.rd KM],[y4],tZ,none⟩
def rK:FS:=⟨[.rd kY,.rd kY],[y4],kq,none⟩
def qD:FS:=⟨[.rd y37,.rd y37],[y4],mg,none⟩
def Ak:FS:=⟨[.rd xp,.rd xp],[y4],p7,none⟩
def xF:FS:=⟨[.rd y59,.rd y59],[y4],rp,none⟩
def Cv:FS:=⟨[.rd y61,.rd y61],[y4],sD,none⟩
def qF:FS:=⟨[.rd zS,.rd zS],[y4],jk,none⟩
def pc:FS:=⟨[.rd y38,.rd y38],[y4],kW,none⟩
def tl:FS:=⟨[.rd y40,.rd y40],[y4],lL,none⟩
def qG:FS:=⟨[.rd y88,.rd y88],[y4],jl,none⟩
def pd:FS:=⟨[.rd y41,.rd y41],[y4],kX,none⟩
def xG:FS:=⟨[.rd y43,.rd y43],[y4],hY,none⟩
def Cw:FS:=⟨[.rd DC],[DC],oX,none⟩
def wG:FS:=⟨[.rd y36],[y36],oY,none⟩
def Al:FS:=⟨[.rd kY],[kY],p8,none⟩
def Am:FS:=⟨[.rd y40],[y40],p9,none⟩
def An:FS:=⟨[.rd y43],[y43],qa,none⟩
def ot:FS:=⟨[.rd y36,.rd y3],[y36,y4],eM,none⟩
def rL:FS:=⟨[.rd y91],[y91],lZ,none⟩
def qe:FS:=⟨[.rd DC],[DC],iB,none⟩
def nE:FS:=⟨[.rd y36],[y36],hZ,none⟩
def pe:FS:=⟨[.rd kY],[kY],iC,none⟩
def qH:FS:=⟨[.rd y40],[y40],jm,none⟩
def tm:FS:=⟨[.rd y43],[y43],lM,none⟩
def Ao:FS:=⟨[.rd y36,.rd y3],[DC,y4],ua,none⟩
def ou:FS:=⟨[.rd y36,.rd y3],[y36,y4],gD,none⟩
def pf:FS:=⟨[.rd y43,.rd y3],[y43,y4],fD,none⟩
def rM:FS:=⟨[.ow y91,.rd y3],[y3],l5,none⟩
def vp:FS:=⟨[.ow Vd,.rd y3],[y3],mH,none⟩
def tn:FS:=⟨[.ow y34,.rd y3],[y3],lN,none⟩
def rN:FS:=⟨[.ow y36,.rd y3],[y3],kz,none⟩
def vq:FS:=⟨[.ow FR,.rd y3],[y3],mI,none⟩
def vr:FS:=⟨[.ow KM,.rd y3],[y3],mJ,none⟩
def ox:FS:=⟨[.ow y37,.rd y3],[y3],gE,none⟩
def tq:FS:=⟨[.ow y59,.rd y3],[y3],lO,none⟩
def nF:FS:=⟨[.ow y38,.rd y3],[y3],fZ,none⟩
def qI:FS:=⟨[.ow y40,.rd y3],[y3],jr,none⟩
def nG:FS:=⟨[.ow y41,.rd y3],[y3],ga,none⟩
def tu:FS:=⟨[.ow y43,.rd y3],[y3],eU,none⟩
def rO:FS:=⟨[.rd y91,.rd y3],[y3],l6,none⟩
def vt:FS:=⟨[.rd Vd,.rd y3],[y3],mK,none⟩
def tv:FS:=⟨[.rd y34,.rd y3],[y3],lP,none⟩
def rP:FS:=⟨[.rd y36,.rd y3],[y3],kB,none⟩
def vu:FS:=⟨[.rd FR,.rd y3],[y3],mL,none⟩
def vv:FS:=⟨[.rd KM,.rd y3],[y3],mM,none⟩
def oy:FS:=⟨[.rd y37,.rd y3],[y3],gF,none⟩
def tw:FS:=⟨[.rd y59,.rd y3],[y3],lQ,none⟩
def nH:FS:=⟨[.rd y38,.rd y3],[y3],gb,none⟩
def qJ:FS:=⟨[.rd y40,.rd y3],[y3],jw,none⟩
def nI:FS:=⟨[.rd y41,.rd y3],[y3],gf,none⟩
def tx:FS:=⟨[.rd y43,.rd y3],[y3],gu,none⟩
def Cx:FS:=⟨[.rd y9,.rd y3],[y9],wA,none⟩
def pg:FS:=⟨[.rd y43,.rd y3],[y43,y4],iH,none⟩
def ph:FS:=⟨[.rd y31,.rd y3],[y4],dk,none⟩
end R
namespace R
open Go.RowKit
open D
theorem Cy:FOk Tryz.prog 206 wB:=fk [] trivial Tryz.func206 .no
theorem HK:FOk Tryz.prog 207 zT:=fk [] trivial Tryz.func207 .no
theorem HL:FOk Tryz.prog 149 zU:=fk [(206,wB),(207,zT)] ⟨Cy,HK,trivial⟩ Tryz.func149 .no
theorem FV:FOk Tryz.prog 95 xq:=fk [(149,zU)] ⟨HL,trivial⟩ Tryz.func95 (.two .no (.two .no (.two .no (.two (.two .no (.loop [.slot 1 (.num .i64),.slot 5 (.num .i64)] .no)) .no))))
theorem DD:FOk Tryz.prog 40 vd:=fk [(95,xq)] ⟨FV,trivial⟩ Tryz.func40 .no
theorem HM:FOk Tryz.prog 208 zV:=fk [] trivial Tryz.func208 .no
theorem HO:FOk Tryz.prog 209 zW:=fk [(206,wB)] ⟨Cy,trivial⟩ Tryz.func209 (.two .no (.two .no (.two .no (.two (.two .no (.loop [.slot 1 (.num .i64),.slot 5 (.num .i64)] .no)) .no))))
theorem Ap:FOk Tryz.prog 150 rq:=fk [(208,zV),(209,zW)] ⟨HM,HO,trivial⟩ Tryz.func150 .no
theorem xY:FOk Tryz.prog 96 qo:=fk [(150,rq)] ⟨Ap,trivial⟩ Tryz.func96 (.two .no (.two .no (.two .no (.two (.two .no (.loop [.slot 1 (.num .i64),.slot 5 (.num .i64)] .no)) .no))))
theorem FW:FOk Tryz.prog 82 xr:=fk [] trivial Tryz.func82 .no
theorem KN:FOk Tryz.prog 28 Ck:=fk [(82,xr)] ⟨FW,trivial⟩ Tryz.func28 .no
theorem xZ:FOk Tryz.prog 151 qp:=fk [(28,Ck)] ⟨KN,trivial⟩ Tryz.func151 .no
theorem wH:FOk Tryz.prog 97 oZ:=fk [(151,qp)] ⟨xZ,trivial⟩ Tryz.func97 (.two .no (.two .no (.two .no (.two (.two .no (.loop [.slot 1 (.num .i64),.slot 5 (.num .i64)] .no)) .no))))
theorem Bh:FOk Tryz.prog 41 sV:=fk [(96,qo),(97,oZ)] ⟨xY,wH,trivial⟩ Tryz.func41 .no
theorem wI:FOk Tryz.prog 42 o0:=fk [] trivial Tryz.func42 .no
theorem FX:FOk Tryz.prog 11 xt:=fk [(40,vd),(41,sV),(42,o0)] ⟨DD,Bh,wI,trivial⟩ Tryz.func11 .no
theorem lS:FOk Tryz.prog 59 kD:=fk [] trivial Tryz.func59 .no
end R
namespace R
open Go.RowKit
open D
theorem KO:FOk Tryz.prog 152 Cl:=fk [(59,kD)] ⟨lS,trivial⟩ Tryz.func152 .no
theorem ya:FOk Tryz.prog 98 qq:=fk [(59,kD),(152,Cl)] ⟨lS,KO,trivial⟩ Tryz.func98 (.two .no (.two (.two .no (.loop [.slot 3 (.num .i64)] .no)) (.two (.two .no (.loop [.slot 4 (.num .i64)] .no)) .no)))
theorem Aq:FOk Tryz.prog 99 ve:=fk [] trivial Tryz.func99 (.two .no (.two (.two .no (.loop [.slot 5 (.num .i64)] .no)) .no))
theorem kF:FOk Tryz.prog 43 gG:=fk [(59,kD),(98,qq),(99,ve)] ⟨lS,ya,Aq,trivial⟩ Tryz.func43 (.two .no (.two (.two .no (.loop [.slot 3 (.num .i64)] .no)) .no))
theorem xH:FOk Tryz.prog 276 rr:=fk [(59,kD)] ⟨lS,trivial⟩ Tryz.func276 .no
theorem Ar:FOk Tryz.prog 322 ub:=fk [(59,kD),(276,rr)] ⟨lS,xH,trivial⟩ Tryz.func322 (.two .no (.two (.two .no (.join [.slot 5 .boo] .no (.two .no (.two .no (.two .no (.join [.slot 37 .boo] .no .no)))))) .no))
theorem KP:FOk Tryz.prog 319 Cm:=fk [(322,ub)] ⟨Ar,trivial⟩ Tryz.func319 (.two .no (.two .no (.two (.two .no (.loop [.slot 3 (.num .i64),.slot 4 (.num .i64)] .no)) .no)))
theorem As:FOk Tryz.prog 281 ru:=fk [(319,Cm)] ⟨KP,trivial⟩ Tryz.func281 .no
theorem ug:FOk Tryz.prog 284 qb:=fk [(322,ub)] ⟨Ar,trivial⟩ Tryz.func284 (.two .no (.two .no (.two .no (.two (.loop [.slot 3 (.num .i64),.slot 4 (.num .i64)] .no) .no))))
theorem At: ∀n,FOk Tryz.prog 282 (qc n)
 | 0=>j7 (f:=qc 0) (enters_of Tryz.func282 (by kernel_rfl) rfl) rfl (fun d=>rfl)
 | n+1=>by
  have ih:=At n
  exact fk [(282,(qc n)),(284,qb)] ⟨ih,ug,trivial⟩ Tryz.func282 (.two .no (.two .no (.two .no (.two (.two .no (.two (.two .no (.at [.slot 15 .boo] .no)) .no)) .no))))
theorem wJ:FOk Tryz.prog 155 sE:=fk [] trivial Tryz.func155 .no
theorem Cz:FOk Tryz.prog 320 wC:=fk [(155,sE)] ⟨wJ,trivial⟩ Tryz.func320 .no
theorem KQ:FOk Tryz.prog 343 Cn:=fk [] trivial Tryz.func343 .no
theorem xI: ∀n,FOk Tryz.prog 321 (oe n)
 | 0=>j7 (f:=oe 0) (enters_of Tryz.func321 (by kernel_rfl) rfl) rfl (fun d=>rfl)
 | n+1=>by
  have ih:=xI n
  exact fk [(320,wC),(321,(oe n)),(343,Cn)] ⟨Cz,ih,KQ,trivial⟩ Tryz.func321 .no
theorem vx: ∀n,FOk Tryz.prog 283 (mN n)
 | 0=>j7 (f:=mN 0) (enters_of Tryz.func283 (by kernel_rfl) rfl) rfl (fun d=>rfl)
 | n+1=>by
  have ih:=vx n
  exact fk [(283,(mN n)),(284,qb),(320,wC),(321,(oe gi))] ⟨ih,ug,Cz,(xI gi),trivial⟩ Tryz.func283 (.two .no (.two .no (.two .no (.two (.two .no (.two (.two .no (.at [.slot 15 .boo] .no)) .no)) .no))))
theorem Bi:FOk Tryz.prog 248 sW:=fk [(281,ru),(282,(qc gi)),(283,(mN gi))] ⟨As,(At gi),(vx gi),trivial⟩ Tryz.func248 .no
theorem HP:FOk Tryz.prog 285 zX:=fk [] trivial Tryz.func285 (.two .no (.loop [.slot 6 (.num .i64),.par 3 [3] 3 y3] (.two .no (.two (.at [.par 3 [3] 3 y3] .no) .no))))
end R
namespace R
open Go.RowKit
open D
theorem xJ: ∀n,FOk Tryz.prog 249 (oh n)
 | 0=>j7 (f:=oh 0) (enters_of Tryz.func249 (by kernel_rfl) rfl) rfl (fun d=>rfl)
 | n+1=>by
  have ih:=xJ n
  exact fk [(249,(oh n)),(284,qb),(285,zX)] ⟨ih,ug,HP,trivial⟩ Tryz.func249 (.two .no (.two .no (.two .no (.two (.two .no (.two .no (.two .no (.two .no (.two .no (.two .no (.two (.two .no (.two .no (.two .no (.two .no (.two .no (.two (.two .no (.at [.box 11 [.boo,(.num .i64),(.num .i64)]] .no)) (.two (.two .no (.at [.box 11 [.boo,(.num .i64),(.num .i64)]] .no)) .no))))))) .no))))))) .no))))
theorem vy:FOk Tryz.prog 210 oi:=fk [(248,sW),(249,(oh gi))] ⟨Bi,(xJ gi),trivial⟩ Tryz.func210 (.two .no (.two .no (.two .no (.two .no (.two (.two .no (.loop [.slot 6 (.num .i64),.slot 7 (.num .i64)] (.two .no (.two (.at [.slot 6 (.num .i64)] .no) .no)))) .no)))))
theorem FY:FOk Tryz.prog 250 xu:=fk [] trivial Tryz.func250 (.two .no (.two .no (.join [.slot 7 (.num .i64)] .no (.two (.two .no (.loop [.slot 7 (.num .i64),.slot 8 (.num .i64)] (.two .no (.join [.slot 7 (.num .i64)] .no .no)))) (.two .no (.two (.two .no (.loop [.slot 9 (.num .i64),.slot 10 (.num .i64)] (.two .no (.join [.slot 9 (.num .i64)] .no .no)))) .no))))))
theorem Au:FOk Tryz.prog 251 uc:=fk [] trivial Tryz.func251 (.two .no (.two (.two .no (.loop [.slot 5 (.num .i64)] .no)) .no))
theorem Bj:FOk Tryz.prog 252 sX:=fk [] trivial Tryz.func252 .no
theorem Bk:FOk Tryz.prog 211 sY:=fk [(250,xu),(251,uc),(252,sX)] ⟨FY,Au,Bj,trivial⟩ Tryz.func211 (.two .no (.two .no (.two .no (.two (.two .no (.loop [.slot 7 (.own 3 y3),.slot 8 (.num .i64),.box 6 [(.num .i64),(.own 4 y4),(.own 91 y91)]] (.two .no (.two (.two .no (.two (.two .no (.loop [.slot 7 (.own 3 y3),.slot 9 (.own 3 y3),.slot 10 (.num .i64)] (.two .no (.two (.two .no (.two .no (.join [.slot 7 (.own 3 y3),.slot 12 (.num .i64)] .no .no))) .no)))) .no)) .no)))) .no))))
theorem Bl:FOk Tryz.prog 286 sZ:=fk [] trivial Tryz.func286 (.two .no (.two .no (.two (.two .no (.loop [.slot 1 (.own 3 y3),.slot 2 (.num .i64)] .no)) .no)))
theorem DE:FOk Tryz.prog 253 vf:=fk [(251,uc),(286,sZ)] ⟨Au,Bl,trivial⟩ Tryz.func253 (.two .no (.two .no (.two .no (.two .no (.two .no (.two (.two .no (.loop [.slot 8 (.own 3 y3),.slot 9 (.own 3 y3),.slot 10 (.num .i64),.box 7 [(.num .i64),(.own 4 y4),(.own 91 y91)]] (.two .no (.two (.two .no (.two (.two .no (.loop [.slot 8 (.own 3 y3),.slot 9 (.own 3 y3),.slot 11 (.own 3 y3),.slot 12 (.num .i64)] (.two .no (.two (.two .no (.two .no (.join [.slot 8 (.own 3 y3),.slot 9 (.own 3 y3),.slot 14 (.num .i64)] .no .no))) .no)))) .no)) .no)))) .no))))))
theorem Av:FOk Tryz.prog 255 ud:=fk [] trivial Tryz.func255 (.two .no (.two .no (.two (.two .no (.loop [.row 3 4 y4,.slot 4 (.num .i64)] (.two .no (.two (.two .no (.loop [.row 3 4 y4,.slot 5 (.num .i64)] (.two .no (.two (.two .no (.loop [.row 3 4 y4,.slot 6 (.num .i64)] (.two .no (.join [.row 3 4 y4] .no .no)))) .no)))) .no)))) .no)))
theorem KR:FOk Tryz.prog 287 Co:=fk [] trivial Tryz.func287 (.two .no (.two .no (.two (.two .no (.loop [.slot 7 (.own 3 y3),.slot 8 (.num .i64)] (.two .no (.join [.slot 7 (.own 3 y3)] .no .no)))) .no)))
theorem Bm:FOk Tryz.prog 254 ta:=fk [(99,ve),(255,ud),(287,Co)] ⟨Aq,Av,KR,trivial⟩ Tryz.func254 (.two .no (.two .no (.two .no (.two (.two .no (.loop [.slot 4 (.own 3 y3),.slot 5 (.num .i64)] (.two .no (.two (.two .no (.two (.two .no (.at [.slot 6 (.num .i64)] .no)) (.two (.two .no (.at [.slot 6 (.num .i64)] .no)) .no))) .no)))) (.two (.two .no (.loop [.slot 4 (.own 3 y3),.slot 7 (.num .i64)] (.two .no (.two (.two .no (.two .no (.two (.two .no (.loop [.slot 8 (.own 91 y91),.slot 9 (.own 3 y3),.slot 10 (.num .i64)] (.two .no (.two (.at [.slot 8 (.own 91 y91),.slot 9 (.own 3 y3)] (.two .no (.two .no (.two .no (.two (.two .no (.loop [.slot 12 (.num .i64),.slot 13 (.num .i64)] (.two .no (.two (.at [.slot 12 (.num .i64)] .no) .no)))) (.two (.two .no (.at [.slot 8 (.own 91 y91),.slot 12 (.num .i64),.gone 11] .no)) .no)))))) .no)))) .no))) .no)))) .no)))))
theorem Aw:FOk Tryz.prog 212 rv:=fk [(253,vf),(254,ta),(255,ud)] ⟨DE,Bm,Av,trivial⟩ Tryz.func212 .no
theorem Ax:FOk Tryz.prog 153 ry:=fk [(210,oi),(211,sY),(212,rv)] ⟨vy,Bk,Aw,trivial⟩ Tryz.func153 .no
theorem pj:FOk Tryz.prog 156 kZ:=fk [(99,ve)] ⟨Aq,trivial⟩ Tryz.func156 (.two .no (.two .no (.two (.two .no (.loop [.slot 5 (.num .i64)] .no)) (.two (.two .no (.loop [.slot 6 (.num .i64)] .no)) .no))))
theorem FZ:FOk Tryz.prog 154 xw:=fk [(156,kZ)] ⟨pj,trivial⟩ Tryz.func154 (.two .no (.two (.two .no (.loop [.slot 5 (.num .i64)] .no)) .no))
theorem F5:FOk Tryz.prog 100 xx:=fk [(59,kD),(153,ry),(154,xw),(155,sE)] ⟨lS,Ax,FZ,wJ,trivial⟩ Tryz.func100 (.two .no (.two .no (.two .no (.two (.two .no (.loop [.slot 5 (.num .i64),.box 4 [(.own 189 kY),(.own 137 zS)]] (.two .no (.two (.two .no (.two .no (.two .no (.join [.slot 8 (.num .i64),.box 4 [(.own 189 kY),(.own 137 zS)],.gone 6] .no .no)))) .no)))) .no))))
theorem Bn:FOk Tryz.prog 157 tc:=fk [] trivial Tryz.func157 (.two .no (.two .no (.two (.two .no (.loop [.slot 5 (.num .i64)] .no)) .no)))
end R
namespace R
open Go.RowKit
open D
theorem uh:FOk Tryz.prog 101 np:=fk [(156,kZ),(157,tc)] ⟨pj,Bn,trivial⟩ Tryz.func101 (.two .no (.two .no (.two (.two .no (.loop [.slot 5 (.num .i64)] .no)) (.two (.two .no (.loop [.slot 6 (.num .i64)] .no)) .no))))
theorem ui:FOk Tryz.prog 44 nr:=fk [(100,xx),(101,np)] ⟨F5,uh,trivial⟩ Tryz.func44 .no
theorem ld:FOk Tryz.prog 63 iI:=fk [(43,gG)] ⟨kF,trivial⟩ Tryz.func63 .no
theorem DF:FOk Tryz.prog 79 vh:=fk [] trivial Tryz.func79 (.two .no (.two (.two .no (.loop [.slot 5 (.num .i64)] .no)) .no))
theorem HQ:FOk Tryz.prog 45 zY:=fk [(59,kD),(63,iI),(79,vh)] ⟨lS,ld,DF,trivial⟩ Tryz.func45 (.two .no (.two (.two .no (.loop [.slot 3 (.num .i64)] .no)) .no))
theorem qf:FOk Tryz.prog 144 mO:=fk [] trivial Tryz.func144 (.two .no (.two .no (.two .no (.two .no (.two (.loop [.slot 0 (.num .i64),.slot 3 .str] (.two .no (.two .no (.two (.two .no (.at [.slot 5 (.num .i64)] .no)) .no)))) .no)))))
theorem qK:FOk Tryz.prog 243 mi:=fk [(276,rr)] ⟨xH,trivial⟩ Tryz.func243 .no
theorem tz:FOk Tryz.prog 200 oG:=fk [(59,kD),(144,mO),(243,mi)] ⟨lS,qf,qK,trivial⟩ Tryz.func200 .no
theorem rQ:FOk Tryz.prog 143 nt:=fk [(200,oG)] ⟨tz,trivial⟩ Tryz.func143 (.two .no (.two .no (.two .no (.two (.two .no (.loop [.slot 3 .str,.slot 4 (.num .i64)] (.two .no (.two (.atX [.slot 3 .str] (.two .no (.two .no (.two (.two .no (.at [.slot 3 .str] .no)) .no)))) .no)))) .no))))
theorem F6:FOk Tryz.prog 145 xy:=fk [] trivial Tryz.func145 (.two .no (.two .no (.two (.two .no (.loop [.slot 3 (.num .i64),.slot 4 (.num .i64)] .no)) .no)))
theorem qL:FOk Tryz.prog 90 mj:=fk [(59,kD),(143,nt),(144,mO),(145,xy)] ⟨lS,rQ,qf,F6,trivial⟩ Tryz.func90 .no
theorem Ay:FOk Tryz.prog 177 vi:=fk [] trivial Tryz.func177 (.two .no (.two .no (.two .no (.two (.two .no (.loop [.slot 5 (.own 9 y9),.slot 6 (.num .i64),.slot 7 (.num .i64)] (.two .no (.two (.at [.slot 5 (.own 9 y9),.slot 6 (.num .i64)] .no) .no)))) .no))))
theorem xK:FOk Tryz.prog 178 rz:=fk [(144,mO)] ⟨qf,trivial⟩ Tryz.func178 (.two .no (.two .no (.two .no (.two (.two .no (.loop [.slot 4 (.num .i64),.slot 5 (.num .i64),.slot 6 (.num .i64)] (.two .no (.two (.at [.slot 4 (.num .i64),.slot 5 (.num .i64)] .no) .no)))) (.two (.two .no (.at [.slot 4 (.num .i64)] .no)) .no)))))
theorem Az:FOk Tryz.prog 271 rA:=fk [(243,mi)] ⟨qK,trivial⟩ Tryz.func271 (.two .no (.two (.two .no (.loop [.slot 4 (.num .i64)] .no)) .no))
theorem DG:FOk Tryz.prog 232 vj:=fk [(177,vi),(178,rz),(200,oG),(271,rA)] ⟨Ay,xK,tz,Az,trivial⟩ Tryz.func232 .no
theorem Bo:FOk Tryz.prog 179 tf:=fk [(143,nt),(177,vi),(232,vj)] ⟨rQ,Ay,DG,trivial⟩ Tryz.func179 (.two .no (.two .no (.two .no (.two .no (.two (.two .no (.loop [.slot 6 (.num .i64),.box 4 [(.own 170 (.prod y4 GM))]] .no)) .no)))))
theorem yc:FOk Tryz.prog 118 qu:=fk [(90,mj),(177,vi),(178,rz),(179,tf)] ⟨qL,Ay,xK,Bo,trivial⟩ Tryz.func118 .no
end R
namespace R
open Go.RowKit
open D
theorem AA:FOk Tryz.prog 60 ue:=Jy (ps:=[.rd y9]) (A:=y91) (E:=73) (t:=y73) (B:=y3) (m:=m_s_ScanLog) (fk [(118,qu)] ⟨yc,trivial⟩ Tryz.func60 (.two .no (.two .no (.two .no (.two .no (.two (.two .no (.loop [.slot 5 (.own 3 y3),.slot 6 (.own 73 y73),.slot 7 (.num .i64),.slot 8 (.num .i64)] (.two .no (.two (.atX [.slot 5 (.own 3 y3),.slot 6 (.own 73 y73),.slot 7 (.num .i64)] .no) .no)))) .no))))))
theorem KS:FOk Tryz.prog 46 Cp:=fk [(60,ue),(63,iI)] ⟨AA,ld,trivial⟩ Tryz.func46 .no
theorem wK:FOk Tryz.prog 12 o6:=fk [(43,gG),(44,nr),(45,zY),(46,Cp)] ⟨kF,ui,HQ,KS,trivial⟩ Tryz.func12 .no
theorem CA:FOk Tryz.prog 213 wD:=fk [] trivial Tryz.func213 (.two .no (.two .no (.two (.two .no (.loop [.row 3 3 y3,.slot 4 (.num .i64)] .no)) .no)))
theorem KT:FOk Tryz.prog 201 Cq:=fk [] trivial Tryz.func201 .no
theorem HS:FOk Tryz.prog 214 zZ:=fk [(201,Cq)] ⟨KT,trivial⟩ Tryz.func214 (.two .no (.two .no (.two (.two .no (.loop [.row 3 168 GM,.slot 4 (.num .i64)] .no)) .no)))
theorem HT:FOk Tryz.prog 158 Aa:=fk [(213,wD),(214,zZ)] ⟨CA,HS,trivial⟩ Tryz.func158 .no
theorem F7:FOk Tryz.prog 102 xz:=fk [(158,Aa)] ⟨HT,trivial⟩ Tryz.func102 (.two .no (.two .no (.two (.two .no (.loop [.row 3 126 DC,.slot 4 (.num .i64)] .no)) .no)))
theorem DH:FOk Tryz.prog 47 vk:=fk [(102,xz)] ⟨F7,trivial⟩ Tryz.func47 .no
theorem HU:FOk Tryz.prog 215 Ab:=fk [] trivial Tryz.func215 (.two .no (.two .no (.two (.two .no (.loop [.row 3 4 y4,.slot 4 (.num .i64)] .no)) .no)))
theorem HV:FOk Tryz.prog 216 Ac:=fk [(213,wD)] ⟨CA,trivial⟩ Tryz.func216 (.two .no (.two .no (.two (.two .no (.loop [.row 3 91 y91,.slot 4 (.num .i64)] .no)) .no)))
theorem AB:FOk Tryz.prog 159 rB:=fk [(215,Ab),(216,Ac)] ⟨HU,HV,trivial⟩ Tryz.func159 .no
theorem yd:FOk Tryz.prog 103 qv:=fk [(159,rB)] ⟨AB,trivial⟩ Tryz.func103 (.two .no (.two .no (.two (.two .no (.loop [.row 3 189 kY,.slot 4 (.num .i64)] .no)) .no)))
theorem HW:FOk Tryz.prog 139 Ad:=fk [] trivial Tryz.func139 .no
theorem F8:FOk Tryz.prog 84 xA:=fk [(139,Ad)] ⟨HW,trivial⟩ Tryz.func84 (.two .no (.two .no (.two (.two .no (.loop [.row 3 161 xp,.slot 4 (.num .i64)] .no)) .no)))
theorem KU:FOk Tryz.prog 30 Cr:=fk [(84,xA)] ⟨F8,trivial⟩ Tryz.func30 .no
theorem ye:FOk Tryz.prog 160 qw:=fk [(30,Cr)] ⟨KU,trivial⟩ Tryz.func160 .no
end R
namespace R
open Go.RowKit
open D
theorem wL:FOk Tryz.prog 104 o7:=fk [(160,qw)] ⟨ye,trivial⟩ Tryz.func104 (.two .no (.two .no (.two (.two .no (.loop [.row 3 137 zS,.slot 4 (.num .i64)] .no)) .no)))
theorem Bp:FOk Tryz.prog 48 tg:=fk [(103,qv),(104,o7)] ⟨yd,wL,trivial⟩ Tryz.func48 .no
theorem yf:FOk Tryz.prog 105 qx:=fk [] trivial Tryz.func105 .no
theorem wM:FOk Tryz.prog 49 o8:=fk [(105,qx)] ⟨yf,trivial⟩ Tryz.func49 (.two .no (.two .no (.two (.two .no (.loop [.row 3 88 y88,.slot 4 (.num .i64)] .no)) .no)))
theorem F9:FOk Tryz.prog 13 xB:=fk [(47,vk),(48,tg),(49,o8)] ⟨DH,Bp,wM,trivial⟩ Tryz.func13 .no
theorem iJ:FOk Tryz.prog 53 gx:=fk [] trivial Tryz.func53 .no
theorem CB:FOk Tryz.prog 161 wE:=fk [(53,gx)] ⟨iJ,trivial⟩ Tryz.func161 .no
theorem yg:FOk Tryz.prog 106 qy:=fk [(53,gx),(161,wE)] ⟨iJ,CB,trivial⟩ Tryz.func106 (.two .no (.two .no (.two (.two .no (.loop [.slot 14 (.num .i64)] .no)) (.two (.two .no (.loop [.slot 25 (.num .i64)] .no)) .no))))
theorem ez:FOk Tryz.prog 107 cQ:=fk [] trivial Tryz.func107 (.two .no (.two .no (.two (.two .no (.loop [.slot 13 (.num .i64)] .no)) .no)))
theorem kG:FOk Tryz.prog 50 gH:=fk [(53,gx),(106,qy),(107,cQ)] ⟨iJ,yg,ez,trivial⟩ Tryz.func50 (.two .no (.two .no (.two .no (.two (.two .no (.loop [.slot 24 (.num .i64)] .no)) .no))))
theorem xL:FOk Tryz.prog 326 rC:=fk [(53,gx)] ⟨iJ,trivial⟩ Tryz.func326 .no
theorem HY:FOk Tryz.prog 293 Ae:=fk [(53,gx),(326,rC)] ⟨iJ,xL,trivial⟩ Tryz.func293 (.two .no (.two (.two .no (.two .no (.two .no (.two .no (.two .no (.join [.slot 37 .boo] .no .no)))))) .no))
theorem mq:FOk Tryz.prog 294 bG:=FO (f:=bG) (j7 (f:=⟨bG.ps,bG.rs,bG.m,none⟩) (enters_of Tryz.func294 (by kernel_rfl) rfl) rfl (fun d=>rfl)) (Jw (V:=⟨tt,[],[(5,.raw)],8,[]⟩) Ve trivial mixed Tryz.func294 rfl rfl (enters_of Tryz.func294 (by kernel_rfl) rfl) (bp rfl) .no (fun E bn xs=>by cases bn <;> kernel_rfl))
theorem wN:FOk Tryz.prog 258 sF:=fk [(293,Ae),(294,bG)] ⟨HY,mq,trivial⟩ Tryz.func258 (.two .no (.two .no (.two (.two .no (.loop [.slot 3 (.own 274 Ym),.slot 13 (.num .i64)] (.two .no (.two .no (.two (.two .no (.two .no (.two (.two .no (.at [.slot 6 (.num .i64)] (.two (.two .no (.at [.slot 19 .boo] .no)) (.two .no (.two (.two .no (.at [.slot 22 .boo] .no)) .no))))) .no))) .no))))) .no))) (tr:=[(302,274,xp)])
theorem KV:FOk Tryz.prog 323 Cs:=fk [(258,sF)] ⟨wN,trivial⟩ Tryz.func323 .no (tr:=[(302,274,xp)])
theorem AC:FOk Tryz.prog 288 rD:=fk [(323,Cs)] ⟨KV,trivial⟩ Tryz.func288 .no
theorem tC: ∀n,FOk Tryz.prog 289 (lR n)
 | 0=>j7 (f:=lR 0) (enters_of Tryz.func289 (by kernel_rfl) rfl) rfl (fun d=>rfl)
 | n+1=>by
  have ih:=tC n
  exact fk [(289,(lR n))] ⟨ih,trivial⟩ Tryz.func289 (.two .no (.two .no (.two (.two .no (.loop [.slot 3 (.num .i64),.slot 11 (.num .i64)] (.two .no (.two .no (.two (.at [.slot 3 (.num .i64)] .no) .no))))) .no))) (tr:=[(302,274,xp)])
end R
namespace R
open Go.RowKit
open D
theorem Re:FOk Tryz.prog 344 JC:=fk [] trivial Tryz.func344 .no (tr:=[(302,274,xp)])
theorem xM: ∀n,FOk Tryz.prog 324 (oj n)
 | 0=>j7 (f:=oj 0) (enters_of Tryz.func324 (by kernel_rfl) rfl) rfl (fun d=>rfl)
 | n+1=>by
  have ih:=xM n
  exact fk [(324,(oj n)),(344,JC)] ⟨ih,Re,trivial⟩ Tryz.func324 .no (tr:=[(302,274,xp)])
theorem rR: ∀n,FOk Tryz.prog 290 (kE n)
 | 0=>j7 (f:=kE 0) (enters_of Tryz.func290 (by kernel_rfl) rfl) rfl (fun d=>rfl)
 | n+1=>by
  have ih:=rR n
  exact fk [(290,(kE n)),(324,(oj gi))] ⟨ih,(xM gi),trivial⟩ Tryz.func290 (.two .no (.two .no (.two .no (.two (.two .no (.loop [.slot 41 (.num .i64),.box 3 [(.num .i64),(.num .i64),(.num .i64),(.num .i64),(.own 274 (.tree 302 274 xp))]] .no)) .no)))) (an:=[(52,t274)]) (tr:=[(302,274,xp)])
theorem qM: ∀n,FOk Tryz.prog 325 (jx n)
 | 0=>j7 (f:=jx 0) (enters_of Tryz.func325 (by kernel_rfl) rfl) rfl (fun d=>rfl)
 | n+1=>by
  have ih:=qM n
  exact fk [(325,(jx n))] ⟨ih,trivial⟩ Tryz.func325 (.two (.two .no (.loop [.slot 11 (.num .i64),.box 1 [(.own 161 xp)]] .no)) .no) (tr:=[(302,274,xp)])
theorem DI:FOk Tryz.prog 291 vl:=fk [(325,(jx gi))] ⟨(qM gi),trivial⟩ Tryz.func291 .no (tr:=[(302,274,xp)])
theorem Bq:FOk Tryz.prog 256 th:=fk [(258,sF),(288,rD),(289,(lR gi)),(290,(kE gi)),(291,vl)] ⟨wN,AC,(tC gi),(rR gi),DI,trivial⟩ Tryz.func256 .no (tr:=[(302,274,xp)])
theorem sQ:FOk Tryz.prog 292 mw:=fk [] trivial Tryz.func292 (.two .no (.loop [.slot 12 (.num .i64),.par 3 [3] 3 y3] (.two .no (.two .no (.two (.at [.par 3 [3] 3 y3] .no) .no)))))
theorem nJ: ∀n,FOk Tryz.prog 257 (gg n)
 | 0=>j7 (f:=gg 0) (enters_of Tryz.func257 (by kernel_rfl) rfl) rfl (fun d=>rfl)
 | n+1=>by
  have ih:=nJ n
  exact fk [(257,(gg n)),(292,mw)] ⟨ih,sQ,trivial⟩ Tryz.func257 (.two .no (.two (.two .no (.two .no (.two .no (.two .no (.two .no (.two .no (.two .no (.two .no (.two (.two .no (.two .no (.two .no (.two (.two .no (.at [.box 10 [(.num .i64),(.num .i64),.boo]] .no)) (.two (.two .no (.at [.box 10 [(.num .i64),(.num .i64),.boo]] .no)) .no))))) .no))))))))) .no)) (tr:=[(302,274,xp)])
theorem vz:FOk Tryz.prog 217 om:=fk [(256,th),(257,(gg gi)),(258,sF)] ⟨Bq,(nJ gi),wN,trivial⟩ Tryz.func217 (.two .no (.two .no (.two .no (.two .no (.two (.two .no (.loop [.slot 6 (.num .i64),.slot 22 (.num .i64)] (.two .no (.two .no (.two (.at [.slot 6 (.num .i64)] .no) .no))))) .no))))) (tr:=[(302,274,xp)])
theorem qN:FOk Tryz.prog 259 mn:=fk [] trivial Tryz.func259 (.two .no (.two .no (.two .no (.two .no (.two (.two .no (.loop [.slot 10 (.own 3 y3),.slot 11 (.map ⟨3,3,.int,.int⟩),.slot 13 (.num .i64),.box 12 [(.num .i64),(.own 4 y4),(.own 91 y91)]] (.two .no (.two (.two .no (.two (.two .no (.loop [.slot 10 (.own 3 y3),.slot 11 (.map ⟨3,3,.int,.int⟩),.slot 14 (.own 3 y3),.slot 15 (.num .i64)] (.two .no (.join [.slot 10 (.own 3 y3),.slot 11 (.map ⟨3,3,.int,.int⟩),.slot 14 (.own 3 y3)] (.two .no (.two .no (.two .no (.join [.slot 10 (.own 3 y3),.slot 11 (.map ⟨3,3,.int,.int⟩),.slot 18 (.num .i64)] .no .no)))) .no)))) .no)) .no)))) .no)))))
theorem rS:FOk Tryz.prog 260 l7:=fk [] trivial Tryz.func260 .no
theorem uj:FOk Tryz.prog 262 nw:=fk [] trivial Tryz.func262 (.two .no (.two .no (.join [.slot 7 (.num .i64)] .no (.two (.two .no (.loop [.slot 7 (.num .i64),.slot 21 (.num .i64)] (.two .no (.two .no (.join [.slot 7 (.num .i64)] .no .no))))) (.two .no (.two (.two .no (.loop [.slot 10 (.num .i64),.slot 39 (.num .i64)] (.two .no (.two .no (.join [.slot 10 (.num .i64)] .no .no))))) .no))))))
theorem wO:FOk Tryz.prog 261 o9:=fk [(262,nw)] ⟨uj,trivial⟩ Tryz.func261 .no
theorem AD:FOk Tryz.prog 218 rE:=fk [(259,mn),(260,l7),(261,o9)] ⟨qN,rS,wO,trivial⟩ Tryz.func218 .no
theorem mP:FOk Tryz.prog 345 bL:=FO (f:=bL) (j7 (f:=⟨bL.ps,bL.rs,bL.m,none⟩) (enters_of Tryz.func345 (by kernel_rfl) rfl) rfl (fun d=>rfl)) (Jw (V:=⟨tt,[],[(5,.raw)],8,[]⟩) Ve trivial mixed Tryz.func345 rfl rfl (enters_of Tryz.func345 (by kernel_rfl) rfl) (bp rfl) .no (fun E bn xs=>by cases bn <;> kernel_rfl))
theorem vA:FOk Tryz.prog 327 oo:=fk [(345,bL)] ⟨mP,trivial⟩ Tryz.func327 (.two .no (.two .no (.two (.two .no (.loop [.slot 4 .boo,.row 3 4 y4] (.two .no (.two .no (.two .no (.loop [.slot 4 .boo,.slot 16 (.num .i64),.row 3 4 y4] (.two .no (.two .no (.two (.two .no (.two .no (.loop [.slot 4 .boo,.slot 23 (.num .i64),.row 3 4 y4] (.two .no (.two .no (.two (.at [.slot 4 .boo,.row 3 4 y4] .no) .no)))))) .no))))))))) .no)))
theorem jU:FOk Tryz.prog 346 dZ:=fk [] trivial Tryz.func346 (.two .no (.two (.two .no (.loop [.slot 8 (.num .i64)] .no)) .no))
end R
namespace R
open Go.RowKit
open D
theorem qU:FOk Tryz.prog 347 kN:=fk [(107,cQ)] ⟨ez,trivial⟩ Tryz.func347 .no
theorem sR:FOk Tryz.prog 328 my:=fk [(346,dZ),(347,kN)] ⟨jU,qU,trivial⟩ Tryz.func328 (.two .no (.two .no (.two .no (.two (.two .no (.loop [.slot 6 (.own 91 y91),.slot 7 (.own 3 y3),.slot 18 (.num .i64)] (.two .no (.two .no (.join [.slot 6 (.own 91 y91),.slot 7 (.own 3 y3)] (.two .no (.two .no (.two .no (.two (.two .no (.loop [.slot 36 (.num .i64),.box 10 [(.own 3 y3)]] (.two .no (.two .no (.two (.two .no (.join [.slot 12 (.num .i64)] .no .no)) .no))))) (.two .no (.join [.slot 6 (.own 91 y91),.slot 13 (.num .i64),.gone 10] .no .no)))))) .no))))) .no))))
theorem rT:FOk Tryz.prog 295 l8:=fk [(327,oo),(328,my)] ⟨vA,sR,trivial⟩ Tryz.func295 (.two .no (.two .no (.two (.two .no (.loop [.slot 3 (.own 3 y3),.slot 13 (.num .i64)] (.two .no (.two .no (.join [.slot 3 (.own 3 y3)] .no .no))))) (.two .no (.loop [.slot 3 (.own 3 y3),.slot 6 (.num .i64)] .no)))))
theorem uk:FOk Tryz.prog 354 ny:=fk [] trivial Tryz.func354 .no
theorem um:FOk Tryz.prog 355 nz:=fk [] trivial Tryz.func355 .no
theorem wP:FOk Tryz.prog 348 pa:=fk [(354,ny),(355,nz)] ⟨uk,um,trivial⟩ Tryz.func348 .no
theorem nK:FOk Tryz.prog 329 ic:=fk [(348,pa)] ⟨wP,trivial⟩ Tryz.func329 (.two .no (.two .no (.two .no (.two .no (.two .no (.two .no (.two (.loop [.slot 8 (.num .i64),.row 7 3 (.int .i64)] .no) .no))))))) (an:=[(44,.bool)])
theorem HZ:FOk Tryz.prog 296 Af:=fk [(329,ic)] ⟨nK,trivial⟩ Tryz.func296 .no
theorem nS:FOk Tryz.prog 298 iN:=fk [] trivial Tryz.func298 (.two .no (.two (.two .no (.loop [.slot 8 (.num .i64)] .no)) .no))
theorem pn:FOk Tryz.prog 297 jM:=fk [(298,iN)] ⟨nS,trivial⟩ Tryz.func297 .no
theorem po:FOk Tryz.prog 299 jN:=fk [] trivial Tryz.func299 .no
theorem vB:FOk Tryz.prog 301 oq:=fk [(326,rC)] ⟨xL,trivial⟩ Tryz.func301 .no
theorem pq:FOk Tryz.prog 300 jO:=fk [(301,oq)] ⟨vB,trivial⟩ Tryz.func300 .no
theorem qV:FOk Tryz.prog 263 kO:=fk [(259,mn),(295,l8),(296,Af),(297,jM),(299,jN),(300,jO)] ⟨qN,rT,HZ,pn,po,pq,trivial⟩ Tryz.func263 .no
theorem NT:FOk Tryz.prog 219 FU:=fk [(263,kO)] ⟨qV,trivial⟩ Tryz.func219 .no
theorem AE:FOk Tryz.prog 162 rF:=fk [(217,om),(218,rE),(219,FU)] ⟨vz,AD,NT,trivial⟩ Tryz.func162 .no
theorem gp:FOk Tryz.prog 163 cP:=fk [] trivial Tryz.func163 (.two .no (.two (.two .no (.loop [.slot 8 (.num .i64)] .no)) .no))
end R
namespace R
open Go.RowKit
open D
theorem mQ:FOk Tryz.prog 220 gI:=fk [] trivial Tryz.func220 (.two .no (.two .no (.two (.two .no (.loop [.slot 13 (.num .i64)] .no)) .no)))
theorem eQ:FOk Tryz.prog 221 cg:=fk [] trivial Tryz.func221 (.two .no (.two .no (.two (.two .no (.loop [.slot 17 (.num .i64)] .no)) .no)))
theorem uo:FOk Tryz.prog 222 nA:=fk [(107,cQ)] ⟨ez,trivial⟩ Tryz.func222 .no
theorem pv:FOk Tryz.prog 165 k7:=fk [(220,gI),(221,cg),(222,nA)] ⟨mQ,eQ,uo,trivial⟩ Tryz.func165 .no
theorem Gc:FOk Tryz.prog 164 xC:=fk [(165,k7)] ⟨pv,trivial⟩ Tryz.func164 .no
theorem xN:FOk Tryz.prog 166 rG:=fk [] trivial Tryz.func166 .no
theorem KW:FOk Tryz.prog 108 Ct:=fk [(53,gx),(162,rF),(163,cP),(164,xC),(166,rG)] ⟨iJ,AE,gp,Gc,xN,trivial⟩ Tryz.func108 (.two .no (.two .no (.two (.two .no (.loop [.slot 13 (.num .i64),.box 4 [(.own 189 kY),(.own 137 zS)]] (.two .no (.two .no (.two (.two .no (.two .no (.two .no (.two .no (.join [.slot 9 (.num .i64),.box 4 [(.own 189 kY),(.own 137 zS)],.gone 7] .no .no))))) .no))))) .no)))
theorem cG:FOk Tryz.prog 167 bE:=fk [] trivial Tryz.func167 (.two .no (.two .no (.two (.two .no (.loop [.slot 17 (.num .i64)] .no)) .no)))
theorem cv:FOk Tryz.prog 168 bA:=fk [] trivial Tryz.func168 (.two .no (.two .no (.two (.two .no (.loop [.slot 17 (.num .i64)] .no)) .no)))
theorem ma:FOk Tryz.prog 264 fK:=fk [] trivial Tryz.func264 (.two .no (.two .no (.two (.two .no (.loop [.slot 13 (.num .i64)] .no)) .no)))
theorem Br:FOk Tryz.prog 223 tj:=fk [(264,fK)] ⟨ma,trivial⟩ Tryz.func223 .no
theorem yh:FOk Tryz.prog 169 qz:=fk [(223,tj)] ⟨Br,trivial⟩ Tryz.func169 .no
theorem uq:FOk Tryz.prog 109 nB:=fk [(165,k7),(167,bE),(168,bA),(169,qz)] ⟨pv,cG,cv,yh,trivial⟩ Tryz.func109 .no
theorem ur:FOk Tryz.prog 51 nC:=fk [(108,Ct),(109,nB)] ⟨KW,uq,trivial⟩ Tryz.func51 .no
theorem pw:FOk Tryz.prog 52 k8:=fk [(50,gH)] ⟨kG,trivial⟩ Tryz.func52 .no
theorem fF:FOk Tryz.prog 110 cF:=fk [] trivial Tryz.func110 (.two .no (.two (.two .no (.loop [.slot 8 (.num .i64)] .no)) .no))
theorem AF:FOk Tryz.prog 111 rH:=fk [] trivial Tryz.func111 .no
end R
namespace R
open Go.RowKit
open D
theorem DJ:FOk Tryz.prog 54 vm:=fk [(110,cF),(111,rH)] ⟨fF,AF,trivial⟩ Tryz.func54 .no
theorem rU:FOk Tryz.prog 112 l9:=Dx Dz (enters_of Tryz.func112 (by kernel_rfl) rfl)
theorem yi:FOk Tryz.prog 195 qA:=Rb Jz (enters_of Tryz.func195 (by kernel_rfl) rfl)
theorem vC:FOk Tryz.prog 131 qd:=fk [(195,qA)] ⟨yi,trivial⟩ Tryz.func131 .no
theorem tD:FOk Tryz.prog 193 oH:=fk [(131,qd),(161,wE)] ⟨vC,CB,trivial⟩ Tryz.func193 .no
theorem yj:FOk Tryz.prog 194 qB:=Rc Rd NS 9 (enters_of Tryz.func194 (by kernel_rfl) rfl)
theorem rV:FOk Tryz.prog 130 nD:=fk [(193,oH),(194,qB)] ⟨tD,yj,trivial⟩ Tryz.func130 (.two .no (.two .no (.two .no (.two (.two .no (.loop [.slot 3 (.own 9 y9),.slot 15 (.num .i64)] (.two .no (.two .no (.two (.atX [.slot 3 (.own 9 y9)] .no) .no))))) .no))))
theorem Ge:FOk Tryz.prog 132 xD:=fk [] trivial Tryz.func132 (.two .no (.two .no (.two (.two .no (.loop [.slot 3 (.num .i64),.slot 4 (.num .i64)] .no)) .no)))
theorem qO:FOk Tryz.prog 73 mo:=fk [(53,gx),(130,nD),(131,qd),(132,xD)] ⟨iJ,rV,vC,Ge,trivial⟩ Tryz.func73 .no
theorem px:FOk Tryz.prog 171 k9:=NP NR (by kernel_rfl) (by kernel_rfl) (enters_of Tryz.func171 (by kernel_rfl) rfl)
theorem AG (n a b:Int) (w:World):Calls Tryz.prog 53 #[.int .i64 n,.int .i64 a,.int .i64 b] w fun e w'=>e= .returned (.bool (decide (a<=n/\n<=b)))/\w'=w:=by
 by_cases h:a<=n
 ·go_enter Tryz.func53,Tryz.ntmps53
  go_wp2
  go_ret
  simp[h]
 ·go_enter Tryz.func53,Tryz.ntmps53
  go_wp2
  go_ret
  simp
  try (intro k;omega)
theorem H0 (s:ByteArray) (r:Int×Bool) (w:World) (hr:rj s=some r) (hL:LayW Tryz.prog w):Calls Tryz.prog 172 #[.string s] w fun e w'=>e= .returned (.tuple #[.int .i64 r.1,.bool r.2])/\Below w.heap.size w w':=by
 unfold rj at hr
 by_cases h10:10<s.size
 ·rw[if_pos h10] at hr
  obtain rfl:=ae hr
  go_enter Tryz.func172,Tryz.ntmps172
  go_wp2
  go_ret2
  exact ⟨rfl,Below.refl _ _⟩
 ·rw[if_neg h10] at hr
  have h18:s.size<=18:=by omega
  cases ha:Lib.atoi s.data.toList with
  | none =>
   rw[ha] at hr
   obtain rfl:=ae hr
   obtain ⟨tp,p,hv⟩:=hL.syn
   have hcon:=Any.strconv_Atoi_err_var JA s h18 ha tp p w hv
   go_enter Tryz.func172,Tryz.ntmps172
   go_wp2_with (go_at_call 226;refine hcon.mono ?_;rintro e w' ⟨N,rfl,hN,hh,hb⟩)
   go_ret2
   exact ⟨rfl,hb⟩
  | some n =>
   rw[ha] at hr
   have hB:=Lib.atoi_bound ha (by simpa using h18)
   have hA:=Any.strconv_Atoi { JA with } s n h18 ha w
   have hI:=fun t=>Any.strconv_Itoa Jz n (by omega) (by omega) (Lib.bytesWorld w 5 t) (Lib.bytesWorld_var w 5 t hL.tab)
   have hz: ∀t k os,Below w.heap.size w (Go.Sort.grow ((Lib.bytesWorld w 5 t).drewN k) os):=fun t k os=>by
    have h1:=Lib.bytesWorld_below w 5 t
    exact ⟨h1.os,h1.tape,h1.output,by have:=h1.size;simp only[Go.Sort.grow,Array.size_append];exact Nat.le_trans this (Nat.le_add_right _ _),fun b hb=>(Go.Sort.heap_grow_old ((Lib.bytesWorld w 5 t).drewN k) os (aK hb h1.size:b<((Lib.bytesWorld w 5 t).drewN k).heap.size)).trans (h1.block b hb)⟩
   replace hr:(if (⟨(Lib.itoa n).toArray⟩:ByteArray)=s/\ -999999999<=n/\n<=999999999 then some (n,true) else some (0,false))=some r:=hr
   generalize (⟨(Lib.itoa n).toArray⟩:ByteArray)=q at hr hI
   by_cases e1:q=s
   ·subst e1
    by_cases e2: -999999999<=n/\n<=999999999
    ·rw[if_pos ⟨rfl,e2.1,e2.2⟩] at hr
     obtain rfl:=ae hr
     go_enter Tryz.func172,Tryz.ntmps172
     go_wp2_with (first | (go_at_call 226;refine hA.mono ?_;rintro e w' ⟨rfl,t,rfl⟩) | (go_at_call 195;refine (hI _).mono ?_;rintro e w' ⟨rfl,k,os,rfl⟩) | (go_at_call 53;refine (AG _ _ _ _).mono ?_;rintro e w' ⟨rfl,rfl⟩))
     go_ret2
     exact ⟨rfl,hz _ _ _⟩
    ·rw[if_neg fun k=>e2 k.2] at hr
     obtain rfl:=ae hr
     go_enter Tryz.func172,Tryz.ntmps172
     go_wp2_with (first | (go_at_call 226;refine hA.mono ?_;rintro e w' ⟨rfl,t,rfl⟩) | (go_at_call 195;refine (hI _).mono ?_;rintro e w' ⟨rfl,k,os,rfl⟩) | (go_at_call 53;refine (AG _ _ _ _).mono ?_;rintro e w' ⟨rfl,rfl⟩))
     go_ret2
     exact ⟨rfl,hz _ _ _⟩
   ·rw[if_neg fun k=>e1 k.1] at hr
    obtain rfl:=ae hr
    have e2: ¬q.toList=s.toList:=fun k=>e1 (Go.WideShapes.bytes_inj (by rw[<-ByteArray.toList_eq,<-ByteArray.toList_eq];exact k))
    go_enter Tryz.func172,Tryz.ntmps172
    go_wp2_with (first | (go_at_call 226;refine hA.mono ?_;rintro e w' ⟨rfl,t,rfl⟩) | (go_at_call 195;refine (hI _).mono ?_;rintro e w' ⟨rfl,k,os,rfl⟩) | (go_at_call 53;refine (AG _ _ _ _).mono ?_;rintro e w' ⟨rfl,rfl⟩))
    go_ret2
    exact ⟨rfl,hz _ _ _⟩
theorem xO:FOk Tryz.prog 172 rI:=NQ (enters_of Tryz.func172 (by kernel_rfl) rfl) H0
theorem AH:FOk Tryz.prog 270 rJ:=U9 Vc (by kernel_rfl) (enters_of Tryz.func270 (by kernel_rfl) rfl)
theorem DK:FOk Tryz.prog 227 vn:=fk [(172,rI),(193,oH),(270,rJ)] ⟨xO,tD,AH,trivial⟩ Tryz.func227 .no
theorem Bs:FOk Tryz.prog 173 tk:=fk [(130,nD),(171,k9),(227,vn)] ⟨rV,px,DK,trivial⟩ Tryz.func173 (.two .no (.two .no (.two .no (.two (.two .no (.loop [.slot 16 (.num .i64),.box 4 [(.own 170 (.prod y4 GM))]] .no)) .no))))
theorem yk:FOk Tryz.prog 113 qC:=fk [(73,mo),(171,k9),(172,rI),(173,tk)] ⟨qO,px,xO,Bs,trivial⟩ Tryz.func113 .no
theorem AI:FOk Tryz.prog 55 uf:=Jy (ps:=[.rd y9]) (A:=y91) (E:=73) (t:=y73) (B:=y3) (m:=m_i_ScanLog) (fk [(112,l9),(113,qC)] ⟨rU,yk,trivial⟩ Tryz.func55 (.two .no (.two .no (.two .no (.two .no (.two (.loop [.slot 5 (.own 3 y3),.slot 6 (.own 73 y73),.slot 7 (.num .i64)] .no) .no))))))
theorem wQ:FOk Tryz.prog 14 pb:=fk [(50,gH),(51,nC),(52,k8),(53,gx),(54,vm),(55,uf)] ⟨kG,ur,pw,iJ,DJ,AI,trivial⟩ Tryz.func14 (.two .no (.two .no (.two .no (.two (.two .no (.loop [.slot 37 (.num .i64)] .no)) .no))))
end R
namespace R
open Go.RowKit
open D
theorem CC:FOk Tryz.prog 228 wF:=fk [] trivial Tryz.func228 (.two .no (.two .no (.two (.two .no (.loop [.slot 5 (.num .i64)] .no)) .no)))
theorem KX:FOk Tryz.prog 205 Cu:=fk [] trivial Tryz.func205 .no
theorem H1:FOk Tryz.prog 229 Ag:=fk [(205,Cu)] ⟨KX,trivial⟩ Tryz.func229 (.two .no (.two .no (.two (.two .no (.loop [.slot 5 (.num .i64)] .no)) .no)))
theorem H2:FOk Tryz.prog 174 Ah:=fk [(228,wF),(229,Ag)] ⟨CC,H1,trivial⟩ Tryz.func174 .no
theorem Gf:FOk Tryz.prog 114 xE:=fk [(174,Ah)] ⟨H2,trivial⟩ Tryz.func114 (.two .no (.two .no (.two (.two .no (.loop [.slot 5 (.num .i64)] .no)) .no)))
theorem DL:FOk Tryz.prog 56 vo:=fk [(114,xE)] ⟨Gf,trivial⟩ Tryz.func56 .no
theorem H3:FOk Tryz.prog 230 Ai:=fk [] trivial Tryz.func230 (.two .no (.two .no (.two (.two .no (.loop [.slot 5 (.num .i64)] .no)) .no)))
theorem H4:FOk Tryz.prog 231 Aj:=fk [(228,wF)] ⟨CC,trivial⟩ Tryz.func231 (.two .no (.two .no (.two (.two .no (.loop [.slot 5 (.num .i64)] .no)) .no)))
theorem AJ:FOk Tryz.prog 175 rK:=fk [(230,Ai),(231,Aj)] ⟨H3,H4,trivial⟩ Tryz.func175 .no
theorem ym:FOk Tryz.prog 115 qD:=fk [(175,rK)] ⟨AJ,trivial⟩ Tryz.func115 (.two .no (.two .no (.two (.two .no (.loop [.slot 5 (.num .i64)] .no)) .no)))
theorem H5:FOk Tryz.prog 141 Ak:=fk [] trivial Tryz.func141 .no
theorem Gg:FOk Tryz.prog 86 xF:=fk [(141,Ak)] ⟨H5,trivial⟩ Tryz.func86 (.two .no (.two .no (.two (.two .no (.loop [.slot 5 (.num .i64)] .no)) .no)))
theorem KY:FOk Tryz.prog 32 Cv:=fk [(86,xF)] ⟨Gg,trivial⟩ Tryz.func32 .no
theorem yn:FOk Tryz.prog 176 qF:=fk [(32,Cv)] ⟨KY,trivial⟩ Tryz.func176 .no
theorem wR:FOk Tryz.prog 116 pc:=fk [(176,qF)] ⟨yn,trivial⟩ Tryz.func116 (.two .no (.two .no (.two (.two .no (.loop [.slot 5 (.num .i64)] .no)) .no)))
theorem Bt:FOk Tryz.prog 57 tl:=fk [(115,qD),(116,pc)] ⟨ym,wR,trivial⟩ Tryz.func57 .no
theorem yo:FOk Tryz.prog 117 qG:=fk [] trivial Tryz.func117 .no
end R
namespace R
open Go.RowKit
open D
theorem wS:FOk Tryz.prog 58 pd:=fk [(117,qG)] ⟨yo,trivial⟩ Tryz.func58 (.two .no (.two .no (.two (.two .no (.loop [.slot 5 (.num .i64)] .no)) .no)))
theorem Gh:FOk Tryz.prog 15 xG:=fk [(56,vo),(57,tl),(58,pd)] ⟨DL,Bt,wS,trivial⟩ Tryz.func15 .no
theorem KZ:FOk Tryz.prog 180 Cw:=fk [] trivial Tryz.func180 .no
theorem CD:FOk Tryz.prog 119 wG:=fk [(180,Cw)] ⟨KZ,trivial⟩ Tryz.func119 (.two .no (.two .no (.two (.two .no (.loop [.slot 4 (.num .i64),.box 3 [(.num .i64),(.own 126 DC)]] .no)) .no)))
theorem H6:FOk Tryz.prog 181 Al:=fk [] trivial Tryz.func181 (.two .no (.two .no (.two (.two .no (.loop [.slot 4 (.num .i64),.box 3 [(.num .i64),(.own 4 y4),(.own 91 y91)]] .no)) .no)))
theorem H7:FOk Tryz.prog 120 Am:=fk [(155,sE),(181,Al)] ⟨wJ,H6,trivial⟩ Tryz.func120 (.two .no (.two .no (.two (.two .no (.loop [.slot 4 (.num .i64),.box 3 [(.own 189 kY),(.own 137 zS)]] .no)) (.two (.two .no (.loop [.slot 5 (.num .i64),.box 3 [(.own 189 kY),(.own 137 zS)]] .no)) .no))))
theorem H8:FOk Tryz.prog 61 An:=fk [(119,wG),(120,Am)] ⟨CD,H7,trivial⟩ Tryz.func61 .no
theorem vD:FOk Tryz.prog 62 ot:=fk [(43,gG),(59,kD),(63,iI),(119,wG)] ⟨kF,lS,ld,CD,trivial⟩ Tryz.func62 .no (an:=[(28,.bool)])
theorem xP:FOk Tryz.prog 233 rL:=fk [] trivial Tryz.func233 .no
theorem vE:FOk Tryz.prog 191 qe:=fk [(233,rL)] ⟨xP,trivial⟩ Tryz.func191 .no
theorem rW:FOk Tryz.prog 127 nE:=fk [(191,qe)] ⟨vE,trivial⟩ Tryz.func127 (.two .no (.two .no (.two (.two .no (.loop [.slot 12 (.num .i64),.box 3 [(.num .i64),(.own 126 DC)]] .no)) .no)))
theorem wT:FOk Tryz.prog 192 pe:=fk [(233,rL)] ⟨xP,trivial⟩ Tryz.func192 (.two .no (.two .no (.two (.two .no (.loop [.slot 16 (.num .i64),.box 3 [(.num .i64),(.own 4 y4),(.own 91 y91)]] .no)) .no)))
end R
namespace R
open Go.RowKit
open D
theorem yp:FOk Tryz.prog 128 qH:=fk [(166,rG),(192,pe)] ⟨xN,wT,trivial⟩ Tryz.func128 (.two .no (.two .no (.two (.two .no (.loop [.slot 12 (.num .i64),.box 3 [(.own 189 kY),(.own 137 zS)]] .no)) (.two (.two .no (.loop [.slot 27 (.num .i64),.box 3 [(.own 189 kY),(.own 137 zS)]] .no)) .no))))
theorem Bu:FOk Tryz.prog 71 tm:=fk [(127,nE),(128,qH)] ⟨rW,yp,trivial⟩ Tryz.func71 .no
theorem H9:FOk Tryz.prog 129 Ao:=fk [(50,gH),(52,k8),(53,gx),(191,qe)] ⟨kG,pw,iJ,vE,trivial⟩ Tryz.func129 .no
theorem vF:FOk Tryz.prog 72 ou:=fk [(127,nE),(129,Ao)] ⟨rW,H9,trivial⟩ Tryz.func72 .no (an:=[(26,.bool)])
theorem wU:FOk Tryz.prog 23 pf:=fk [(14,pb),(55,uf),(71,tm),(72,ou),(73,mo)] ⟨wQ,AI,Bu,vF,qO,trivial⟩ Tryz.func23 (.two .no (.two .no (.two .no (.two .no (.two .no (.two .no (.two .no (.two .no (.two (.two .no (.loop [.slot 42 (.num .i64),.row 10 73 (.bag y73),.box 6 [(.num .i64),(.own 126 DC),(.own 189 kY),(.own 137 zS),(.own 88 y88),.str]] (.two .no (.two .no (.two (.at [.row 10 73 (.bag y73),.box 6 [(.num .i64),(.own 126 DC),(.own 189 kY),(.own 137 zS),(.own 88 y88),.str]] .no) .no))))) .no)))))))))
theorem xQ:FOk Tryz.prog 182 rM:=fk [] trivial Tryz.func182 (.two .no (.two (.two .no (.loop [.par 0 [] 3 y3,.slot 1 (.num .i64),.slot 5 (.num .i64)] .no)) .no))
theorem DM:FOk Tryz.prog 183 vp:=fk [] trivial Tryz.func183 (.two .no (.two (.two .no (.loop [.par 0 [] 168 GM,.slot 1 (.num .i64),.slot 5 (.num .i64)] .no)) .no))
theorem Bv:FOk Tryz.prog 121 tn:=fk [(182,rM),(183,vp)] ⟨xQ,DM,trivial⟩ Tryz.func121 (.two .no (.two (.two .no (.loop [.par 0 [] 126 DC,.slot 1 (.num .i64),.slot 5 (.num .i64)] .no)) .no))
theorem AK:FOk Tryz.prog 64 rN:=fk [(121,tn)] ⟨Bv,trivial⟩ Tryz.func64 .no
theorem DN:FOk Tryz.prog 184 vq:=fk [] trivial Tryz.func184 (.two .no (.two (.two .no (.loop [.par 0 [] 4 y4,.slot 1 (.num .i64),.slot 5 (.num .i64)] .no)) .no))
theorem DO:FOk Tryz.prog 185 vr:=fk [(182,rM)] ⟨xQ,trivial⟩ Tryz.func185 (.two .no (.two (.two .no (.loop [.par 0 [] 91 y91,.slot 1 (.num .i64),.slot 5 (.num .i64)] .no)) .no))
theorem vG:FOk Tryz.prog 122 ox:=fk [(184,vq),(185,vr)] ⟨DN,DO,trivial⟩ Tryz.func122 (.two .no (.two (.two .no (.loop [.par 0 [] 189 kY,.slot 1 (.num .i64),.slot 5 (.num .i64)] .no)) .no))
theorem Bw:FOk Tryz.prog 87 tq:=fk [] trivial Tryz.func87 (.two .no (.two (.two .no (.loop [.par 0 [] 161 xp,.slot 1 (.num .i64),.slot 5 (.num .i64)] .no)) .no))
theorem uu:FOk Tryz.prog 123 nF:=fk [(87,tq)] ⟨Bw,trivial⟩ Tryz.func123 (.two .no (.two (.two .no (.loop [.par 0 [] 137 zS,.slot 1 (.num .i64),.slot 5 (.num .i64)] .no)) .no))
theorem yq:FOk Tryz.prog 65 qI:=fk [(122,ox),(123,nF)] ⟨vG,uu,trivial⟩ Tryz.func65 .no
theorem uv:FOk Tryz.prog 66 nG:=fk [] trivial Tryz.func66 (.two .no (.two (.two .no (.loop [.par 0 [] 88 y88,.slot 1 (.num .i64),.slot 5 (.num .i64)] .no)) .no))
end R
namespace R
open Go.RowKit
open D
theorem Bx:FOk Tryz.prog 20 tu:=fk [(64,rN),(65,qI),(66,nG)] ⟨AK,yq,uv,trivial⟩ Tryz.func20 .no
theorem xR:FOk Tryz.prog 186 rO:=fk [] trivial Tryz.func186 (.two .no (.two (.two .no (.loop [.slot 1 (.num .i64),.slot 5 (.num .i64)] .no)) .no))
theorem DP:FOk Tryz.prog 187 vt:=fk [] trivial Tryz.func187 (.two .no (.two (.two .no (.loop [.slot 1 (.num .i64),.slot 5 (.num .i64)] .no)) .no))
theorem By:FOk Tryz.prog 124 tv:=fk [(186,rO),(187,vt)] ⟨xR,DP,trivial⟩ Tryz.func124 (.two .no (.two (.two .no (.loop [.slot 1 (.num .i64),.slot 5 (.num .i64)] .no)) .no))
theorem AL:FOk Tryz.prog 67 rP:=fk [(124,tv)] ⟨By,trivial⟩ Tryz.func67 .no
theorem DQ:FOk Tryz.prog 188 vu:=fk [] trivial Tryz.func188 (.two .no (.two (.two .no (.loop [.slot 1 (.num .i64),.slot 5 (.num .i64)] .no)) .no))
theorem DR:FOk Tryz.prog 189 vv:=fk [(186,rO)] ⟨xR,trivial⟩ Tryz.func189 (.two .no (.two (.two .no (.loop [.slot 1 (.num .i64),.slot 5 (.num .i64)] .no)) .no))
theorem vH:FOk Tryz.prog 125 oy:=fk [(188,vu),(189,vv)] ⟨DQ,DR,trivial⟩ Tryz.func125 (.two .no (.two (.two .no (.loop [.slot 1 (.num .i64),.slot 5 (.num .i64)] .no)) .no))
theorem Bz:FOk Tryz.prog 190 tw:=fk [] trivial Tryz.func190 (.two .no (.two (.two .no (.loop [.slot 1 (.num .i64),.slot 5 (.num .i64)] .no)) .no))
theorem uw:FOk Tryz.prog 126 nH:=fk [(190,tw)] ⟨Bz,trivial⟩ Tryz.func126 (.two .no (.two (.two .no (.loop [.slot 1 (.num .i64),.slot 5 (.num .i64)] .no)) .no))
theorem yr:FOk Tryz.prog 68 qJ:=fk [(125,oy),(126,nH)] ⟨vH,uw,trivial⟩ Tryz.func68 .no
theorem uy:FOk Tryz.prog 69 nI:=fk [] trivial Tryz.func69 (.two .no (.two (.two .no (.loop [.slot 1 (.num .i64),.slot 5 (.num .i64)] .no)) .no))
theorem BA:FOk Tryz.prog 21 tx:=fk [(67,rP),(68,qJ),(69,nI)] ⟨AL,yr,uy,trivial⟩ Tryz.func21 .no
theorem K0:FOk Tryz.prog 70 Cx:=fk [(60,ue),(90,mj)] ⟨AA,qL,trivial⟩ Tryz.func70 (.two .no (.two .no (.two .no (.two (.two .no (.loop [.slot 8 .str,.slot 9 (.num .i64),.row 6 73 (.bag y73)] (.two .no (.two (.at [.slot 8 .str,.row 6 73 (.bag y73)] .no) .no)))) .no))))
theorem wV:FOk Tryz.prog 22 pg:=fk [(12,o6),(61,An),(62,ot),(70,Cx)] ⟨wK,H8,vD,K0,trivial⟩ Tryz.func22 .no
theorem py:FOk Tryz.prog 6 ph:=fk [(11,xt),(13,xB),(15,xG),(20,tu),(21,tx),(22,pg),(23,pf)] ⟨FX,F9,Gh,Bx,BA,wV,wU,trivial⟩ Tryz.func6 .no
end R
namespace R
open Go.RowKit
open D
end R
namespace R
open Go.RowKit
open D
end R
namespace R
open Go.RowKit
open D
end R
namespace R
open Go.RowKit
open D
end R
namespace D
open Go.RowKit
end D
namespace D
open Go.RowKit
end D
namespace D
open Go.RowKit
end D
namespace D
open Go.RowKit
theorem pz (x0:(Int×Yq5)×Yq8×Yq7×ByteArray) (x1:Int) (r:Bool) (hm:dk x0 x1=some r) {I:Hp} {w0:World} (v0_0:Value) (v0_1:Value) (v0_2:Value) (v0_3:Value) (r0_0:(ah 179 (aI (ah 3 ba) (ah 172 (aI ba (aI ba (aI ba ba)))))).rd I [v0_0] x0.1.2) (r0_1:(ah 184 (aI ba (aI (ah 4 nR) (ah 91 (ah 3 ba))))).rd I [v0_1] x0.2.1.1) (r0_2:(ah 187 (aI ba (aI (ah 163 (aI ba (aI ba (aI ba ba)))) ba))).rd I [v0_2] x0.2.1.2) (r0_3:(ah 133 (aI ba (aI ba ba))).rd I [v0_3] x0.2.2.1) (hL:Lay Tryz.prog I):Con Tryz.prog 6 #[.agg #[.int .i64 x0.1.1,v0_0,v0_1,v0_2,v0_3,.string x0.2.2.2],.int .i64 x1] I w0 [] (fun v=>v= .bool r) (fun _=>[]):=fun w C hs =>
 ((R.py).con w0 I [.agg #[.int .i64 x0.1.1,v0_0,v0_1,v0_2,v0_3,.string x0.2.2.2],.int .i64 x1] (x0,(x1,())) r hL ⟨_,_,rfl,⟨[.int .i64 x0.1.1,v0_0,v0_1,v0_2,v0_3,.string x0.2.2.2],rfl,⟨_,_,rfl,⟨_,_,rfl,rfl,r0_0⟩,⟨_,_,rfl,⟨_,_,rfl,r0_1,r0_2⟩,⟨_,_,rfl,r0_3,rfl⟩⟩⟩⟩,⟨_,_,rfl,⟨[.int .i64 x1],rfl,rfl⟩,rfl⟩⟩ hm w C hs).mono fun e w' ⟨v,he,_,hst⟩=>by
  obtain ⟨h1,h2⟩:=R.uQ (h1:=fun _=>rfl) (show St I w0 w' (Ch.own R.Ty.bool.rep [v] r::C) from hst)
  exact ⟨v,he,(List.cons.inj h1).1,h2⟩
end D
namespace D
open Go.RowKit
end D
namespace D
open Go.RowKit
end D
namespace D
open Go.RowKit
end D
namespace D
open Go.RowKit
end D
namespace D
open Go.RowKit
def I64 (n:Int):Prop:= -9223372036854775808<=n/\n<=9223372036854775807
class Data (α:Type) where
 lim:α->Prop
 sm:α->Prop
instance:Data Int:=⟨I64,fun _=>True⟩
instance:Data Bool:=⟨fun _=>True,fun _=>True⟩
instance:Data ByteArray:=⟨fun s=>s.size<=9223372036854775807,fun s=>s.size<=1048576⟩
instance {α β:Type} [Data α] [Data β] :Data (α×β):=⟨fun x=>Data.lim x.1/\Data.lim x.2,fun x=>Data.sm x.1/\Data.sm x.2⟩
instance {α:Type} [Data α] :Data (List α):=⟨fun xs=>xs.length<=9223372036854775807/\ ∀x,x∈xs->Data.lim x,fun xs=>xs.length<=1048576/\ ∀x,x∈xs->Data.sm x⟩
structure Opens (P:Program) (t:TypeId) {α:Type} [Data α] (R:Rep α):Prop where
 out: ∀ {H:Type} (enc:TypeId×Value->H) (w:World) (fuel:Nat) (cs:List Value) (x:DataW H×List MemPlace),DataW.trod enc P w 0 (fun _=>true) true fuel t cs=some x-> ∃a:α,R.rd (hp w) cs a/\Data.lim a
theorem NU {P:Program} {t:TypeId} (h:P.underlying t=some (.int .i64)):Opens P t ba:=by
 constructor
 intro H enc w fuel cs x hx
 obtain ⟨n,rfl,-,hw⟩:=DataW.trod_int h hx
 refine ⟨n,rfl,show I64 n from ?_⟩
 simp[Lit.wf,IntKind.min,IntKind.max,IntKind.signed,IntKind.bits] at hw
 unfold I64
 omega
theorem K4 {P:Program} {t:TypeId} (h:P.underlying t=some .bool):Opens P t nR:=by
 constructor
 intro H enc w fuel cs x hx
 obtain ⟨n,rfl,-⟩:=DataW.trod_bool h hx
 exact ⟨n,rfl,trivial⟩
theorem Gi {P:Program} {t:TypeId} (h:P.underlying t=some .string):Opens P t CM:=by
 constructor
 intro H enc w fuel cs x hx
 obtain ⟨n,rfl,-,hm⟩:=DataW.trod_string h hx
 exact ⟨n,rfl,show n.size<=_ by unfold maxLen at hm;omega⟩
theorem gh {P:Program} {t e:TypeId} {α:Type} [Data α] {R:Rep α} {E:TypeId} (h:P.underlying t=some (.slice e)) (hc:P.cellsOf e=R.size) (h0:0<R.size) (he:Opens P e R):Opens P t (ah E R):=by
 constructor
 intro H enc w fuel cs x hx
 rcases Go.Deep.open_slice h hx with ⟨rfl,-⟩ | ⟨a,len,cap,m,n,D,Pl,rfl,-,hl,hm,hmm,-,hel⟩
 ·exact ⟨[],⟨none,0,rfl,by simp,.inl rfl⟩,Nat.zero_le _,fun x hx=>by cases hx⟩
 have hlm:m=cap:=by simpa using hmm
 subst hlm
 rw[hc] at hel
 by_cases hz:len=0
 ·subst hz
  exact ⟨[],⟨some a,m,rfl,by simp,.inl rfl⟩,Nat.zero_le _,fun x hx=>by cases hx⟩
 ·have hone: ∀i,i<len-> ∃c:List Value,∃y:α,c.length=R.size/\(∀j,j<R.size->w.cell? ((a.add (i*R.size)).add j)=c[j]?)/\R.rd (hp w) c y/\Data.lim y:=by
   intro i hi
   obtain ⟨c,h1,h2⟩:=hel i (by omega)
   obtain ⟨-,h3,h4⟩:=World.cells?_some h1
   obtain ⟨y,hy⟩:=he.out enc w _ _ _ h2
   exact ⟨c,y,h3,h4,hy⟩
  obtain ⟨c0,y0,hc0,hr0,-⟩:=hone 0 (by omega)
  have h00:=hr0 0 h0
  have hsome: ∃v,c0[0]? =some v:=⟨_,List.getElem?_eq_getElem (by omega)⟩
  obtain ⟨v,hv⟩:=hsome
  rw[hv] at h00
  have ha:(a.add (0*R.size)).add 0=a:=by simp[Addr.add]
  rw[ha] at h00
  obtain ⟨b,off,spot⟩:=a
  have hb: ∃ccs T fr,w.heap[b]? =some (.cells ccs T fr)/\spot=none:=by
   simp only[World.cell?] at h00
   split at h00
   ·rename_i ccs T fr heq
    cases spot with
    | none=>exact ⟨ccs,T,fr,heq,rfl⟩
    | some s=>simp at h00
   ·simp at h00
  obtain ⟨ccs,T,fr,hh,rfl⟩:=hb
  have hadd: ∀i j,(Addr.add ⟨b,off,none⟩ i).add j=⟨b,off+i+j,none⟩:=by
   intro i j
   by_cases h1:i=0 <;> by_cases h2:j=0 <;> simp[Addr.add,h1,h2,Nat.add_assoc]
  haveI:Inhabited α:=⟨y0⟩
  obtain ⟨X,hX⟩:=Go.Deep.choose_lt (α:=α) (n:=len) (p:=fun i y=> ∃c:List Value,c.length=R.size/\(∀j,j<R.size->ccs.toList[off+i*R.size+j]? =c[j]?)/\R.rd (hp w) c y/\Data.lim y) (fun i hi=>by
   obtain ⟨c,y,h1,h2,h3⟩:=hone i hi
   refine ⟨y,c,h1,fun j hj=>?_,h3⟩
   have:=h2 j hj
   rw[hadd] at this
   simp only[World.cell?,hh] at this
   simpa using this)
  have hlen:((List.range len).map X).length=len:=by simp
  have hel2: ∀i y,((List.range len).map X)[i]? =some y->i<len/\y=X i:=fun i y hy=>by
   have hi:i<len:=by have:=(List.getElem?_eq_some_iff.1 hy).1;omega
   exact ⟨hi,by simpa [hi] using hy.symm⟩
  refine ⟨(List.range len).map X,⟨some ⟨b,off,none⟩,m,by rw[hlen],by rw[hlen];unfold maxLen at hm;unfold lim;omega,.inr ⟨b,off,ccs,T,fr,rfl,hh,fun i y hy=>?_⟩⟩,by rw[hlen];unfold maxLen at hm;omega,fun y hy=>?_⟩
  ·obtain ⟨hi,rfl⟩:=hel2 i y hy
   obtain ⟨c,e1,e2,e3,-⟩:=hX i hi
   exact ⟨c,e1,e2,e3⟩
  ·obtain ⟨i,hi,he⟩:=List.mem_iff_getElem?.1 hy |>.imp fun i hi=>hel2 i y hi
   obtain ⟨-,-,-,-,e4⟩:=hX i hi
   rw[he];exact e4
structure OpensFs (P:Program) (fs:List Field) (o:Nat) {α:Type} [Data α] (R:Rep α):Prop where
 out: ∀ {H:Type} (enc:TypeId×Value->H) (w:World) (fuel:Nat) (cs:List Value),cs.length=o+R.size->
  (∀f∈fs,∃x,DataW.trod enc P w 0 (fun _=>true) true fuel f.type ((cs.drop f.offset).take (P.cellsOf f.type))=some x)-> ∃a:α,R.rd (hp w) (cs.drop o) a/\Data.lim a
theorem gy {P:Program} {f:Field} {o:Nat} {α:Type} [Data α] {R:Rep α} (ho:f.offset=o) (hc:P.cellsOf f.type=R.size) (h:Opens P f.type R):OpensFs P [f] o R:=by
 constructor
 intro H enc w fuel cs hl hx
 obtain ⟨x,hx⟩:=hx f (by simp)
 rw[ho,hc,List.take_of_length_le (by rw[aV];omega)] at hx
 exact h.out enc w _ _ _ hx
theorem cj {P:Program} {f:Field} {fs:List Field} {o:Nat} {α β:Type} [Data α] [Data β] {R:Rep α} {S:Rep β} (ho:f.offset=o) (hc:P.cellsOf f.type=R.size) (h:Opens P f.type R) (hs:OpensFs P fs (o+R.size) S):OpensFs P (f::fs) o (aI R S):=by
 constructor
 intro H enc w fuel cs hl hx
 have hl':cs.length=o+(R.size+S.size):=hl
 obtain ⟨b,hb,hlb⟩:=hs.out enc w fuel cs (by omega) (fun g hg=>hx g (by simp[hg]))
 obtain ⟨x,hx⟩:=hx f (by simp)
 rw[ho,hc] at hx
 obtain ⟨a,ha,hla⟩:=h.out enc w _ _ _ hx
 refine ⟨(a,b),⟨(cs.drop o).take R.size,cs.drop (o+R.size),?_,ha,hb⟩,hla,hlb⟩
 rw[<-List.drop_drop,List.take_append_drop]
theorem dG {P:Program} {t:TypeId} {fs:Array Field} {α:Type} [Data α] {R:Rep α} (h:P.underlying t=some (.struct fs)) (hc:P.cellsOf t=R.size) (hf:OpensFs P fs.toList 0 R):Opens P t R:=by
 constructor
 intro H enc w fuel cs x hx
 obtain ⟨xs,n,-,-,hl,hn,hel⟩:=DataW.trod_struct h hx
 have:=hf.out enc w n cs (by omega) (fun f hm=>by
  obtain ⟨i,hi,rfl⟩:=List.getElem_of_mem hm
  have h1:fs[i]? =some fs.toList[i]:=by simp
  exact ⟨_,(hel i _ h1).trans (List.getElem?_eq_getElem (by simp at hi;omega))⟩)
 simpa using this
theorem St.below {w0 w:World} {cs:List Ch} (h:St (hp w0) w0 w cs):Below w0.heap.size w0 w:=by
 obtain ⟨⟨h1,h2,h3,h4⟩,h5,-⟩:=h
 refine ⟨h1,h2,h3,h4,fun b hb=>?_⟩
 have e:w0.heap[b]? =some w0.heap[b]:=Array.getElem?_eq_getElem hb
 rw[e];exact h5 b _ e
end D
namespace D
open Go.RowKit
theorem eV {n:Int} (h1: -9223372036854775808<=n) (h2:n<=9223372036854775807):IntKind.i64.wrap n=n:=by
 simp only[IntKind.wrap,IntKind.bits,IntKind.signed,Bool.true_and]
 split <;> rename_i h <;> simp at h <;> omega
theorem af {i:Nat} (h:i<9223372036854775807):IntKind.i64.wrap ((i:Int)+1)=((i+1:Nat):Int):=by
 rw[eV (by omega) (by omega)];rfl
theorem aF {α:Type} {xs:List α} {i:Nat} (h:i<xs.length):aQ xs (i:Int)=some (xs[i]):=by
 unfold aQ
 rw[if_pos (Int.natCast_nonneg _)]
 simp[h]
theorem bK {i n:Nat} (h:i<n):decide ((i:Int)<(n:Int))=true:=by simp[h]
theorem bm {n:Nat} :decide ((n:Int)<(n:Int))=false:=by simp
theorem dz (k:Nat) (h:k<=9223372036854775807):k<aW:=by unfold aW;omega
theorem vI {α:Type} {b n:Nat} {z:α} (h:n*b<=140737488355328):mkI b (n:Int) z=some (List.replicate n z):=by
 unfold mkI
 rw[if_pos ⟨Int.natCast_nonneg _,by simpa using h⟩];simp
theorem Gj {R S:Type} {f:S->Option (Out R S)} (inv:Nat->S) (N:Nat) (h: ∀i,i<N->f (inv i)=some (.nxt (inv (i+1)))): ∀(m i k:Nat),i+m=N->ax f (k+m) (inv i)=ax f k (inv N)
 | 0,i,k,e=>by rw[show i=N by omega];rfl
 | m+1,i,k,e=>by
  rw[<-Nat.add_assoc,ax,h i (by omega)]
  exact Gj inv N h m (i+1) k (by omega)
theorem Gk {R S:Type} {f:S->Option (Out R S)} (inv:Nat->S) (N:Nat) {s:S} (h: ∀i,i<N->f (inv i)=some (.nxt (inv (i+1)))) (he:f (inv N)=some (.brk s)) (hN:N<aW):ax f aW (inv 0)=some (.brk s):=by
 have e:aW=(aW - N - 1)+1+N:=by omega
 rw[e,Gj inv N h N 0 _ (by omega),ax,he]
theorem toL {R α:Type} {f:List α×Int->Option (Out R (List α×Int))} {z:α} (xs:List α) (hN:xs.length<=9223372036854775807)
  (hstep: ∀ys i (h:i<xs.length),ys.length=xs.length->f (ys,(i:Int))=some (.nxt (ys.set i xs[i],((i+1:Nat):Int)))) (hend: ∀ys,ys.length=xs.length->f (ys,(xs.length:Int))=some (.brk (ys,(xs.length:Int)))) :
  ax f aW (List.replicate xs.length z,0)=some (.brk (xs,(xs.length:Int))):=by
 have h0:(List.replicate xs.length z,(0:Int))=(fun i:Nat=>(xs.take i++(List.replicate xs.length z).drop i,(i:Int))) 0:=by simp
 rw[h0]
 refine Gk (fun i:Nat=>(xs.take i++(List.replicate xs.length z).drop i,(i:Int))) xs.length (fun i hi=>?_) ?_ (dz _ hN)
 ·have hl:(xs.take i++(List.replicate xs.length z).drop i).length=xs.length:=by
   rw[al,aE,aV,List.length_replicate];omega
  rw[hstep _ i hi hl]
  congr 3
  have ht:(xs.take i).length=i:=by rw[aE];omega
  rw[List.set_append_right _ _ (by omega),ht,Nat.sub_self,List.drop_eq_getElem_cons (by rw[List.length_replicate];exact hi),List.set_cons_zero,List.take_succ_eq_append_getElem hi,ai]
  rfl
 ·have:=hend xs rfl
  rw[List.take_of_length_le (aA _),List.drop_of_length_le (by rw[List.length_replicate];exact aA _),List.append_nil]
  exact this
def GN {α:Type} [Data α] (m:α->Int->Option Int):Prop:= ∀x l,Data.lim x->0<=l->l<=1048576-> ∃r,m x l=some r/\(r<0\/(0<=r/\r<=l/\Data.sm x))
def DS {α:Type} [Data α] (m:α->Option α):Prop:= ∀x,Data.sm x->m x=some x
def DT {α:Type} [Data α] [DecidableEq α] (m:α->α->Option Bool):Prop:= ∀x y,Data.sm x->Data.sm y->m x y=some (decide (x=y))
theorem Y6 {α:Type} [Data α] {f:Int×Int->Option yK } (xs:List α)
  (hstep: ∀i (h:i<xs.length) l,0<=l->l<=1048576-> ∃r,f (l,(i:Int))=some (if r<0 then .ret (-1) else .nxt (r,((i+1:Nat):Int)))/\(r<0\/(0<=r/\r<=l/\Data.sm xs[i])))
  (hend: ∀l,f (l,(xs.length:Int))=some (.brk (l,(xs.length:Int)))): ∀(m i k:Nat) (l:Int),i+m=xs.length->m<k->0<=l->l<=1048576->
   ax f k (l,(i:Int))=some (.ret (-1))\/ ∃r,ax f k (l,(i:Int))=some (.brk (r,(xs.length:Int)))/\0<=r/\r<=l/\ ∀j (h:j<xs.length),i<=j->Data.sm xs[j]
 | 0,i,k,l,e,hk,h0,h1=>by
  obtain ⟨k,rfl⟩: ∃q,k=q+1:=⟨k - 1,by omega⟩
  obtain rfl:i=xs.length:=by omega
  exact .inr ⟨l,by rw[ax,hend],h0,Int.le_refl _,fun j hj hi=>by omega⟩
 | m+1,i,k,l,e,hk,h0,h1=>by
  obtain ⟨k,rfl⟩: ∃q,k=q+1:=⟨k - 1,by omega⟩
  obtain ⟨r,e1,e2⟩:=hstep i (by omega) l h0 h1
  rw[ax,e1]
  rcases e2 with e2 | ⟨e2,e3,e4⟩
  ·rw[if_pos e2];exact .inl rfl
  ·rw[if_neg (by omega)]
   rcases Y6 xs hstep hend m (i+1) k r (by omega) (by omega) e2 (by omega) with h | ⟨q,g1,g2,g3,g4⟩
   ·exact .inl h
   ·refine .inr ⟨q,g1,g2,by omega,fun j hj hi=>?_⟩
    by_cases hji:j=i
    ·subst hji;exact e4
    ·exact g4 j hj (by omega)
theorem szL {α:Type} [Data α] {f:Int×Int->Option yK } (xs:List α) {l:Int} (hN:xs.length<=9223372036854775807)
  (hstep: ∀i (h:i<xs.length) l,0<=l->l<=1048576-> ∃r,f (l,(i:Int))=some (if r<0 then .ret (-1) else .nxt (r,((i+1:Nat):Int)))/\(r<0\/(0<=r/\r<=l/\Data.sm xs[i])))
  (hend: ∀l,f (l,(xs.length:Int))=some (.brk (l,(xs.length:Int)))) (h0:0<=l) (h1:l<=1048576) :
  ∃r,(if decide (IntKind.i64.wrap (l - (xs.length:Int))<0) then (some (-1)) else (aP (ax f aW (IntKind.i64.wrap (l - (xs.length:Int)),0)) (fun r=>some r) (fun s4=>some s4.1)))=some r/\(r<0\/(0<=r/\r<=l/\Data.sm xs)):=by
 rw[eV (by omega) (by omega)]
 by_cases h:l - (xs.length:Int)<0
 ·exact ⟨-1,by rw[if_pos (decide_eq_true h)],.inl (by decide)⟩
 ·rw[if_neg (by simpa using h)]
  rcases Y6 xs hstep hend xs.length 0 aW (l - xs.length) (by omega) (dz _ hN) (by omega) (by omega) with e | ⟨r,e,g1,g2,g3⟩
  ·exact ⟨-1,by rw[show ((0:Int))=((0:Nat):Int) from rfl,e];rfl,.inl (by decide)⟩
  ·refine ⟨r,by rw[show ((0:Int))=((0:Nat):Int) from rfl,e];rfl,.inr ⟨g1,by omega,by omega,fun x hx=>?_⟩⟩
   obtain ⟨j,hj,rfl⟩:=List.getElem_of_mem hx
   exact g3 j hj (Nat.zero_le _)
theorem szF {α:Type} [Data α] (xs:List α) {l:Int} (hN:xs.length<=9223372036854775807) (hf: ∀x:α,Data.sm x) (h0:0<=l) (h1:l<=1048576) :
  ∃r,(if decide (IntKind.i64.wrap (l - (xs.length:Int))<0) then (some (-1)) else (some (IntKind.i64.wrap (l - (xs.length:Int)))))=some r/\(r<0\/(0<=r/\r<=l/\Data.sm xs)):=by
 rw[eV (by omega) (by omega)]
 by_cases h:l - (xs.length:Int)<0
 ·exact ⟨-1,by rw[if_pos (decide_eq_true h)],.inl (by decide)⟩
 ·exact ⟨_,by rw[if_neg (by simpa using h)],.inr ⟨by omega,by omega,by omega,fun x _=>hf x⟩⟩
theorem Yn {α:Type} [DecidableEq α] {f:Int->Option (Out Bool Int)} (xs ys:List α) (hl:xs.length=ys.length)
  (hstep: ∀i (h:i<xs.length) (h':i<ys.length),f (i:Int)=some (if xs[i] =ys[i] then .nxt ((i+1:Nat):Int) else .ret false)) (hend:f (xs.length:Int)=some (.brk (xs.length:Int))): ∀(m i k:Nat),i+m=xs.length->m<k->
   ax f k (i:Int)=some (if xs.drop i=ys.drop i then .brk (xs.length:Int) else .ret false)
 | 0,i,k,e,hk=>by
  obtain ⟨k,rfl⟩: ∃q,k=q+1:=⟨k - 1,by omega⟩
  obtain rfl:i=xs.length:=by omega
  rw[ax,hend,List.drop_of_length_le (aA _),List.drop_of_length_le (by omega),if_pos rfl]
 | m+1,i,k,e,hk=>by
  obtain ⟨k,rfl⟩: ∃q,k=q+1:=⟨k - 1,by omega⟩
  have hi:i<xs.length:=by omega
  have hi':i<ys.length:=by omega
  have d1:=List.drop_eq_getElem_cons hi
  have d2:=List.drop_eq_getElem_cons hi'
  rw[ax,hstep i hi hi',d1,d2]
  by_cases h:xs[i] =ys[i]
  ·rw[if_pos h]
   simp only
   rw[Yn xs ys hl hstep hend m (i+1) k (by omega) (by omega)]
   simp only[List.cons.injEq,h,true_and]
  ·rw[if_neg h]
   simp only[List.cons.injEq,h,false_and,if_false]
theorem eqL {α:Type} [DecidableEq α] {f:Int->Option (Out Bool Int)} (xs ys:List α) (hN:xs.length<=9223372036854775807)
  (hstep: ∀i (h:i<xs.length) (h':i<ys.length),f (i:Int)=some (if xs[i] =ys[i] then .nxt ((i+1:Nat):Int) else .ret false)) (hend:f (xs.length:Int)=some (.brk (xs.length:Int))) :
  (if (xs.length:Int) !=(ys.length:Int) then (some false) else (aP (ax f aW 0) (fun r=>some r) (fun s4=>some true)))=some (decide (xs=ys)):=by
 by_cases hl:xs.length=ys.length
 ·rw[if_neg (by rw[hl];simp),show ((0:Int))=((0:Nat):Int) from rfl,Yn xs ys hl hstep hend xs.length 0 aW (by omega) (dz _ hN)]
  by_cases h:xs=ys
  ·subst h;simp[aP]
  ·simp[aP,h]
 ·have:xs≠ys:=fun e=>hl (by rw[e])
  rw[if_pos (by simp;omega)];simp[this]
theorem fE {α:Type} {c d:Prop} [Decidable c] [Decidable d] {a b:α} (h:c↔d):(if c then some a else some b)=some (if d then a else b):=by
 by_cases k:c
 ·rw[if_pos k,if_pos (h.1 k)]
 ·rw[if_neg k,if_neg (fun e=>k (h.2 e))]
theorem qg {α:Type} {c d:Prop} [Decidable c] [Decidable d] {a b:α} (h:c↔ ¬d):(if c then some b else some a)=some (if d then a else b):=by
 by_cases k:d
 ·rw[if_neg (fun e=>h.1 e k),if_pos k]
 ·rw[if_pos (h.2 k),if_neg k]
theorem eqB {α:Type} [DecidableEq α] {f:Int->Option (Out Bool Int)} {K:Option Bool} (xs ys:List α) (hN:xs.length<=9223372036854775807) (hl:xs.length=ys.length)
  (hstep: ∀i (h:i<xs.length) (h':i<ys.length),f (i:Int)=some (if xs[i] =ys[i] then .nxt ((i+1:Nat):Int) else .ret false)) (hend:f (xs.length:Int)=some (.brk (xs.length:Int))) :
  aP (ax f aW 0) (fun r=>some r) (fun s4=>K)=(if xs=ys then K else some false):=by
 rw[show ((0:Int))=((0:Nat):Int) from rfl,Yn xs ys hl hstep hend xs.length 0 aW (by omega) (dz _ hN)]
 by_cases h:xs=ys
 ·subst h;simp[aP]
 ·simp[aP,h]
theorem WZ {f:Int->Option (Out Int Int)} (xs ys:List Int)
  (hstep: ∀i (h:i<xs.length) (h':i<ys.length),f (i:Int)=some (if xs[i] < ys[i] then .ret (-1) else if xs[i] > ys[i] then .ret 1 else .nxt ((i+1:Nat):Int))) (hend: ∀i,xs.length<=i\/ys.length<=i->f (i:Int)=some (.brk (i:Int))): ∀(m i k:Nat),i+m=xs.length->m<k->
   (∃r,ax f k (i:Int)=some (.ret r)/\r≠0/\xs≠ys)\/ ∃s,ax f k (i:Int)=some (.brk s)/\(xs.length=ys.length->xs.drop i=ys.drop i)
 | 0,i,k,e,hk=>by
  obtain ⟨k,rfl⟩: ∃q,k=q+1:=⟨k - 1,by omega⟩
  exact .inr ⟨_,by rw[ax,hend i (.inl (by omega))],fun h=>by rw[List.drop_of_length_le (by omega),List.drop_of_length_le (by omega)]⟩
 | m+1,i,k,e,hk=>by
  obtain ⟨k,rfl⟩: ∃q,k=q+1:=⟨k - 1,by omega⟩
  have hi:i<xs.length:=by omega
  by_cases hi':i<ys.length
  ·have hne: ∀h:xs[i] ≠ys[i],xs≠ys:=fun h e=>h (by subst e;rfl)
   rw[ax,hstep i hi hi']
   by_cases h1:xs[i] < ys[i]
   ·rw[if_pos h1];exact .inl ⟨-1,rfl,by decide,hne (by omega)⟩
   ·rw[if_neg h1]
    by_cases h2:xs[i] > ys[i]
    ·rw[if_pos h2];exact .inl ⟨1,rfl,by decide,hne (by omega)⟩
    ·rw[if_neg h2]
     rcases WZ xs ys hstep hend m (i+1) k (by omega) (by omega) with h | ⟨s,g1,g2⟩
     ·exact .inl h
     ·refine .inr ⟨s,g1,fun hl=>?_⟩
      have h3:xs[i] =ys[i]:=by omega
      rw[List.drop_eq_getElem_cons hi,List.drop_eq_getElem_cons hi',g2 hl,h3]
  ·exact .inr ⟨_,by rw[ax,hend i (.inr (by omega))],fun h=>by omega⟩
instance:LawfulBEq ByteArray where
 eq_of_beq {a b} h:=ByteArray.ext (eq_of_beq (show (a.data==b.data)=true from h))
 rfl {a}:=beq_self_eq_true a.data
theorem Y7 {α β γ δ:Type} {a b:α×β×γ×δ} :(a.1=b.1/\a.2.1=b.2.1/\a.2.2.1=b.2.2.1/\a.2.2.2=b.2.2.2)↔a=b:=by rw[Prod.ext_iff,Prod.ext_iff,Prod.ext_iff]
theorem dH {α β:Type} (p:α×β):(p.1,p.2)=p:=rfl
theorem aG {α:Type} [Data α] {xs:List α} (h:Data.sm xs):xs.length<=1048576/\ ∀x,x∈xs->Data.sm x:=h
theorem eR {α:Type} [Data α] {xs:List α} (h:Data.lim xs):xs.length<=9223372036854775807/\ ∀x,x∈xs->Data.lim x:=h
end D
set_option synthInstance.maxSize 20000
set_option synthInstance.maxHeartbeats 2000000
namespace D
open Go.RowKit
theorem JD:GN sq:=fun xs l hl h0 h1=>szF xs (eR hl).1 (fun _=>trivial) h0 h1
theorem NV:GN tR:=fun xs l hl h0 h1=>szF xs (eR hl).1 (fun _=>⟨trivial,trivial,trivial,trivial⟩) h0 h1
theorem NW:GN pP:=by
 intro x l hl h0 h1
 unfold pP
 try simp only[dH]
 obtain ⟨r1,e1,k1⟩:=JD x.1 l hl.1 (by omega) (by omega)
 rw[e1];simp only[aa]
 rcases k1 with k1 | ⟨k1,j1,s1⟩
 ·exact ⟨-1,by rw[if_pos (decide_eq_true k1)],.inl (by decide)⟩
 rw[if_neg (by simpa using k1)]
 obtain ⟨r2,e2,k2⟩:=NV x.2 r1 hl.2 (by omega) (by omega)
 rw[e2];simp only[aa]
 rcases k2 with k2 | ⟨k2,j2,s2⟩
 ·exact ⟨-1,by rw[if_pos (decide_eq_true k2)],.inl (by decide)⟩
 rw[if_neg (by simpa using k2)]
 exact ⟨_,rfl,.inr ⟨by omega,by omega,⟨s1,s2⟩⟩⟩
theorem K5:GN rk:=fun xs l hl h0 h1=>szL (f:=j8 xs) xs (eR hl).1 (fun i h l k0 k1=>by
 obtain ⟨r,e,hr⟩:=NW xs[i] l ((eR hl).2 _ (List.getElem_mem h)) k0 k1
 refine ⟨r,?_,hr⟩
 simp only[j8,bK h,if_true,aF h,aa,dH,e,af (show i<9223372036854775807 by have:=(eR hl).1;omega)]
 exact fE (by simp)) (fun l=>by simp only[j8,bm];rfl) h0 h1
theorem Ia:GN mB:=by
 intro x l hl h0 h1
 unfold mB
 try simp only[dH]
 obtain ⟨r1,e1,k1⟩:=K5 x.2 l hl.2 (by omega) (by omega)
 rw[e1];simp only[aa]
 rcases k1 with k1 | ⟨k1,j1,s1⟩
 ·exact ⟨-1,by rw[if_pos (decide_eq_true k1)],.inl (by decide)⟩
 rw[if_neg (by simpa using k1)]
 exact ⟨_,rfl,.inr ⟨by omega,by omega,⟨trivial,s1⟩⟩⟩
theorem NX:GN tS:=fun xs l hl h0 h1=>szF xs (eR hl).1 (fun _=>trivial) h0 h1
theorem NY:GN tT:=fun xs l hl h0 h1=>szL (f:=lq xs) xs (eR hl).1 (fun i h l k0 k1=>by
 obtain ⟨r,e,hr⟩:=JD xs[i] l ((eR hl).2 _ (List.getElem_mem h)) k0 k1
 refine ⟨r,?_,hr⟩
 simp only[lq,bK h,if_true,aF h,aa,dH,e,af (show i<9223372036854775807 by have:=(eR hl).1;omega)]
 exact fE (by simp)) (fun l=>by simp only[lq,bm];rfl) h0 h1
theorem DU:GN j9:=by
 intro x l hl h0 h1
 unfold j9
 try simp only[dH]
 obtain ⟨r1,e1,k1⟩:=NX x.2.1 l hl.2.1 (by omega) (by omega)
 rw[e1];simp only[aa]
 rcases k1 with k1 | ⟨k1,j1,s1⟩
 ·exact ⟨-1,by rw[if_pos (decide_eq_true k1)],.inl (by decide)⟩
 rw[if_neg (by simpa using k1)]
 obtain ⟨r2,e2,k2⟩:=NY x.2.2 r1 hl.2.2 (by omega) (by omega)
 rw[e2];simp only[aa]
 rcases k2 with k2 | ⟨k2,j2,s2⟩
 ·exact ⟨-1,by rw[if_pos (decide_eq_true k2)],.inl (by decide)⟩
 rw[if_neg (by simpa using k2)]
 exact ⟨_,rfl,.inr ⟨by omega,by omega,⟨trivial,s1,s2⟩⟩⟩
theorem BB:GN me:=fun xs l hl h0 h1=>szL (f:=fO xs) xs (eR hl).1 (fun i h l k0 k1=>by
 obtain ⟨r,e,hr⟩:=DU xs[i] l ((eR hl).2 _ (List.getElem_mem h)) k0 k1
 refine ⟨r,?_,hr⟩
 simp only[fO,bK h,if_true,aF h,aa,dH,e,af (show i<9223372036854775807 by have:=(eR hl).1;omega)]
 exact fE (by simp)) (fun l=>by simp only[fO,bm];rfl) h0 h1
theorem K6:GN rl:=fun xs l hl h0 h1=>szF xs (eR hl).1 (fun _=>⟨trivial,trivial,trivial,trivial⟩) h0 h1
theorem Rf:GN su:=by
 intro x l hl h0 h1
 unfold su
 try simp only[dH]
 obtain ⟨r1,e1,k1⟩:=K6 x l hl (by omega) (by omega)
 rw[e1];simp only[aa]
 rcases k1 with k1 | ⟨k1,j1,s1⟩
 ·exact ⟨-1,by rw[if_pos (decide_eq_true k1)],.inl (by decide)⟩
 rw[if_neg (by simpa using k1)]
 exact ⟨_,rfl,.inr ⟨by omega,by omega,s1⟩⟩
theorem BC:GN jc:=by
 intro x l hl h0 h1
 unfold jc
 try simp only[dH]
 obtain ⟨r1,e1,k1⟩:=Rf x.2.1 l hl.2.1 (by omega) (by omega)
 rw[e1];simp only[aa]
 rcases k1 with k1 | ⟨k1,j1,s1⟩
 ·exact ⟨-1,by rw[if_pos (decide_eq_true k1)],.inl (by decide)⟩
 rw[if_neg (by simpa using k1)]
 exact ⟨_,rfl,.inr ⟨by omega,by omega,⟨trivial,s1,trivial⟩⟩⟩
theorem AM:GN kR:=fun xs l hl h0 h1=>szL (f:=fa xs) xs (eR hl).1 (fun i h l k0 k1=>by
 obtain ⟨r,e,hr⟩:=BC xs[i] l ((eR hl).2 _ (List.getElem_mem h)) k0 k1
 refine ⟨r,?_,hr⟩
 simp only[fa,bK h,if_true,aF h,aa,dH,e,af (show i<9223372036854775807 by have:=(eR hl).1;omega)]
 exact fE (by simp)) (fun l=>by simp only[fa,bm];rfl) h0 h1
theorem Gl:GN lr:=by
 intro x l hl h0 h1
 unfold lr
 try simp only[dH]
 obtain ⟨r1,e1,k1⟩:=BB x.1 l hl.1 (by omega) (by omega)
 rw[e1];simp only[aa]
 rcases k1 with k1 | ⟨k1,j1,s1⟩
 ·exact ⟨-1,by rw[if_pos (decide_eq_true k1)],.inl (by decide)⟩
 rw[if_neg (by simpa using k1)]
 obtain ⟨r2,e2,k2⟩:=AM x.2 r1 hl.2 (by omega) (by omega)
 rw[e2];simp only[aa]
 rcases k2 with k2 | ⟨k2,j2,s2⟩
 ·exact ⟨-1,by rw[if_pos (decide_eq_true k2)],.inl (by decide)⟩
 rw[if_neg (by simpa using k2)]
 exact ⟨_,rfl,.inr ⟨by omega,by omega,⟨s1,s2⟩⟩⟩
theorem AN:GN kS:=fun xs l hl h0 h1=>szF xs (eR hl).1 (fun _=>⟨trivial,trivial,trivial⟩) h0 h1
theorem K7:GN nY:=by
 intro x l hl h0 h1
 unfold nY
 try simp only[dH]
 obtain ⟨r1,e1,k1⟩:=Ia x.1 l hl.1 (by omega) (by omega)
 rw[e1];simp only[aa]
 rcases k1 with k1 | ⟨k1,j1,s1⟩
 ·exact ⟨-1,by rw[if_pos (decide_eq_true k1)],.inl (by decide)⟩
 rw[if_neg (by simpa using k1)]
 obtain ⟨r2,e2,k2⟩:=Gl x.2.1 r1 hl.2.1 (by omega) (by omega)
 rw[e2];simp only[aa]
 rcases k2 with k2 | ⟨k2,j2,s2⟩
 ·exact ⟨-1,by rw[if_pos (decide_eq_true k2)],.inl (by decide)⟩
 rw[if_neg (by simpa using k2)]
 obtain ⟨r3,e3,k3⟩:=AN x.2.2.1 r2 hl.2.2.1 (by omega) (by omega)
 rw[e3];simp only[aa]
 rcases k3 with k3 | ⟨k3,j3,s3⟩
 ·exact ⟨-1,by rw[if_pos (decide_eq_true k3)],.inl (by decide)⟩
 rw[if_neg (by simpa using k3)]
 rw[eV (by have:x.2.2.2.size<=9223372036854775807:=hl.2.2.2;omega) (by omega)]
 by_cases k4:r3 - (x.2.2.2.size:Int)<0
 ·exact ⟨-1,by rw[if_pos (decide_eq_true k4)],.inl (by decide)⟩
 rw[if_neg (by simpa using k4)]
 have s4:x.2.2.2.size<=1048576:=by omega
 exact ⟨_,rfl,.inr ⟨by omega,by omega,⟨s1,s2,s3,s4⟩⟩⟩
theorem JE:DS oV:=by
 intro xs hx
 have hn:=(aG hx).1
 unfold oV
 rw[vI (by omega)];simp only[aa]
 rw[toL (f:=mD xs) xs (by omega) (fun ys i h hy=>by simp only[mD,bK h,if_true,aF h,aF (show i<ys.length by omega),aa,dH,af (show i<9223372036854775807 by omega),Int.toNat_natCast]) (fun ys hy=>by simp only[mD,bm];rfl)]
 rfl
theorem Rg:DS sw:=by
 intro x hx
 unfold sw
 simp only[dH,aa]
theorem NZ:DS pR:=by
 intro xs hx
 have hn:=(aG hx).1
 unfold pR
 rw[vI (by omega)];simp only[aa]
 rw[toL (f:=lC xs) xs (by omega) (fun ys i h hy=>by simp only[lC,bK h,if_true,aF h,aF (show i<ys.length by omega),aa,dH,Rg xs[i] ((aG hx).2 _ (List.getElem_mem h)),af (show i<9223372036854775807 by omega),Int.toNat_natCast]) (fun ys hy=>by simp only[lC,bm];rfl)]
 rfl
theorem N1:DS pS:=by
 intro x hx
 unfold pS
 simp only[dH,aa,JE x.1 hx.1,NZ x.2 hx.2]
theorem K8:DS oc:=by
 intro xs hx
 have hn:=(aG hx).1
 unfold oc
 rw[vI (by omega)];simp only[aa]
 rw[toL (f:=ke xs) xs (by omega) (fun ys i h hy=>by simp only[ke,bK h,if_true,aF h,aF (show i<ys.length by omega),aa,dH,N1 xs[i] ((aG hx).2 _ (List.getElem_mem h)),af (show i<9223372036854775807 by omega),Int.toNat_natCast]) (fun ys hy=>by simp only[ke,bm];rfl)]
 rfl
theorem Ib:DS mE:=by
 intro x hx
 unfold mE
 simp only[dH,aa,K8 x.2 hx.2]
theorem N2:DS pT:=by
 intro xs hx
 have hn:=(aG hx).1
 unfold pT
 rw[vI (by omega)];simp only[aa]
 rw[toL (f:=lD xs) xs (by omega) (fun ys i h hy=>by simp only[lD,bK h,if_true,aF h,aF (show i<ys.length by omega),aa,dH,af (show i<9223372036854775807 by omega),Int.toNat_natCast]) (fun ys hy=>by simp only[lD,bm];rfl)]
 rfl
theorem N3:DS pU:=by
 intro xs hx
 have hn:=(aG hx).1
 unfold pU
 rw[vI (by omega)];simp only[aa]
 rw[toL (f:=lE xs) xs (by omega) (fun ys i h hy=>by simp only[lE,bK h,if_true,aF h,aF (show i<ys.length by omega),aa,dH,JE xs[i] ((aG hx).2 _ (List.getElem_mem h)),af (show i<9223372036854775807 by omega),Int.toNat_natCast]) (fun ys hy=>by simp only[lE,bm];rfl)]
 rfl
theorem DV:DS kg:=by
 intro x hx
 unfold kg
 simp only[dH,aa,N2 x.2.1 hx.2.1,N3 x.2.2 hx.2.2]
theorem BD:DS jf:=by
 intro xs hx
 have hn:=(aG hx).1
 unfold jf
 rw[vI (by omega)];simp only[aa]
 rw[toL (f:=fS xs) xs (by omega) (fun ys i h hy=>by simp only[fS,bK h,if_true,aF h,aF (show i<ys.length by omega),aa,dH,DV xs[i] ((aG hx).2 _ (List.getElem_mem h)),af (show i<9223372036854775807 by omega),Int.toNat_natCast]) (fun ys hy=>by simp only[fS,bm];rfl)]
 rfl
theorem N4:DS pV:=by
 intro x hx
 unfold pV
 simp only[dH,aa]
theorem K9:DS od:=by
 intro xs hx
 have hn:=(aG hx).1
 unfold od
 rw[vI (by omega)];simp only[aa]
 rw[toL (f:=kh xs) xs (by omega) (fun ys i h hy=>by simp only[kh,bK h,if_true,aF h,aF (show i<ys.length by omega),aa,dH,N4 xs[i] ((aG hx).2 _ (List.getElem_mem h)),af (show i<9223372036854775807 by omega),Int.toNat_natCast]) (fun ys hy=>by simp only[kh,bm];rfl)]
 rfl
theorem Rh:DS sx:=by
 intro x hx
 unfold sx
 simp only[dH,aa,K9 x hx]
theorem BE:DS jg:=by
 intro x hx
 unfold jg
 simp only[dH,aa,Rh x.2.1 hx.2.1]
theorem AO:DS iy:=by
 intro xs hx
 have hn:=(aG hx).1
 unfold iy
 rw[vI (by omega)];simp only[aa]
 rw[toL (f:=fe xs) xs (by omega) (fun ys i h hy=>by simp only[fe,bK h,if_true,aF h,aF (show i<ys.length by omega),aa,dH,BE xs[i] ((aG hx).2 _ (List.getElem_mem h)),af (show i<9223372036854775807 by omega),Int.toNat_natCast]) (fun ys hy=>by simp only[fe,bm];rfl)]
 rfl
theorem Gn:DS lF:=by
 intro x hx
 unfold lF
 simp only[dH,aa,BD x.1 hx.1,AO x.2 hx.2]
theorem BF:DS jh:=by
 intro x hx
 unfold jh
 simp only[dH,aa]
theorem AP:DS iz:=by
 intro xs hx
 have hn:=(aG hx).1
 unfold iz
 rw[vI (by omega)];simp only[aa]
 rw[toL (f:=ff xs) xs (by omega) (fun ys i h hy=>by simp only[ff,bK h,if_true,aF h,aF (show i<ys.length by omega),aa,dH,BF xs[i] ((aG hx).2 _ (List.getElem_mem h)),af (show i<9223372036854775807 by omega),Int.toNat_natCast]) (fun ys hy=>by simp only[ff,bm];rfl)]
 rfl
theorem La:DS gX:=by
 intro x hx
 unfold gX
 simp only[dH,aa,Ib x.1 hx.1,Gn x.2.1 hx.2.1,AP x.2.2.1 hx.2.2.1]
theorem JF:DT sB:=fun xs ys hx hy=>eqL (f:=mF xs ys) xs ys (by have:=(aG hx).1;omega) (fun i h h'=>by
 simp only[mF,bK h,if_true,aF h,aF h',aa,dH,af (show i<9223372036854775807 by have:=(aG hx).1;omega)]
 first | exact fE (by simp) | exact qg (by simp) | exact fE (by simp[Prod.ext_iff])) (by simp only[mF,bm];rfl)
theorem Ri:DT sC:=by
 intro x y hx hy
 unfold sC
 try simp only[dH,aa]
 repeat' split
 all_goals simp_all[Prod.ext_iff]
theorem N5:DT tX:=fun xs ys hx hy=>eqL (f:=lI xs ys) xs ys (by have:=(aG hx).1;omega) (fun i h h'=>by
 simp only[lI,bK h,if_true,aF h,aF h',aa,dH,Ri xs[i] ys[i] ((aG hx).2 _ (List.getElem_mem h)) ((aG hy).2 _ (List.getElem_mem h')),af (show i<9223372036854775807 by have:=(aG hx).1;omega)]
 first | exact fE (by simp) | exact qg (by simp) | exact fE (by simp[Prod.ext_iff])) (by simp only[lI,bm];rfl)
theorem N6:DT pZ:=by
 intro x y hx hy
 unfold pZ
 try simp only[dH,aa,JF x.1 y.1 hx.1 hy.1,N5 x.2 y.2 hx.2 hy.2]
 repeat' split
 all_goals simp_all[Prod.ext_iff]
theorem Lb:DT rm:=fun xs ys hx hy=>eqL (f:=kp xs ys) xs ys (by have:=(aG hx).1;omega) (fun i h h'=>by
 simp only[kp,bK h,if_true,aF h,aF h',aa,dH,N6 xs[i] ys[i] ((aG hx).2 _ (List.getElem_mem h)) ((aG hy).2 _ (List.getElem_mem h')),af (show i<9223372036854775807 by have:=(aG hx).1;omega)]
 first | exact fE (by simp) | exact qg (by simp) | exact fE (by simp[Prod.ext_iff])) (by simp only[kp,bm];rfl)
theorem Ic:DT mG:=by
 intro x y hx hy
 unfold mG
 try simp only[dH,aa,Lb x.2 y.2 hx.2 hy.2]
 repeat' split
 all_goals simp_all[Prod.ext_iff]
theorem N7:DT tY:=fun xs ys hx hy=>eqL (f:=lJ xs ys) xs ys (by have:=(aG hx).1;omega) (fun i h h'=>by
 simp only[lJ,bK h,if_true,aF h,aF h',aa,dH,af (show i<9223372036854775807 by have:=(aG hx).1;omega)]
 first | exact fE (by simp) | exact qg (by simp) | exact fE (by simp[Prod.ext_iff])) (by simp only[lJ,bm];rfl)
theorem N8:DT tZ:=fun xs ys hx hy=>eqL (f:=lK xs ys) xs ys (by have:=(aG hx).1;omega) (fun i h h'=>by
 simp only[lK,bK h,if_true,aF h,aF h',aa,dH,JF xs[i] ys[i] ((aG hx).2 _ (List.getElem_mem h)) ((aG hy).2 _ (List.getElem_mem h')),af (show i<9223372036854775807 by have:=(aG hx).1;omega)]
 first | exact fE (by simp) | exact qg (by simp) | exact fE (by simp[Prod.ext_iff])) (by simp only[lK,bm];rfl)
theorem DW:DT kq:=by
 intro x y hx hy
 unfold kq
 try simp only[dH,aa,N7 x.2.1 y.2.1 hx.2.1 hy.2.1,N8 x.2.2 y.2.2 hx.2.2 hy.2.2]
 repeat' split
 all_goals simp_all[Prod.ext_iff]
theorem BG:DT mg:=fun xs ys hx hy=>eqL (f:=fY xs ys) xs ys (by have:=(aG hx).1;omega) (fun i h h'=>by
 simp only[fY,bK h,if_true,aF h,aF h',aa,dH,DW xs[i] ys[i] ((aG hx).2 _ (List.getElem_mem h)) ((aG hy).2 _ (List.getElem_mem h')),af (show i<9223372036854775807 by have:=(aG hx).1;omega)]
 first | exact fE (by simp) | exact qg (by simp) | exact fE (by simp[Prod.ext_iff])) (by simp only[fY,bm];rfl)
theorem N9:DT p7:=by
 intro x y hx hy
 unfold p7
 try simp only[dH,aa]
 repeat' split
 all_goals simp_all[Prod.ext_iff]
theorem Lc:DT rp:=fun xs ys hx hy=>eqL (f:=kt xs ys) xs ys (by have:=(aG hx).1;omega) (fun i h h'=>by
 simp only[kt,bK h,if_true,aF h,aF h',aa,dH,N9 xs[i] ys[i] ((aG hx).2 _ (List.getElem_mem h)) ((aG hy).2 _ (List.getElem_mem h')),af (show i<9223372036854775807 by have:=(aG hx).1;omega)]
 first | exact fE (by simp) | exact qg (by simp) | exact fE (by simp[Prod.ext_iff])) (by simp only[kt,bm];rfl)
theorem Rj:DT sD:=by
 intro x y hx hy
 unfold sD
 try simp only[dH,aa,Lc x y hx hy]
 repeat' split
 all_goals simp_all[Prod.ext_iff]
theorem BH:DT jk:=by
 intro x y hx hy
 unfold jk
 try simp only[dH,aa,Rj x.2.1 y.2.1 hx.2.1 hy.2.1]
 repeat' split
 all_goals simp_all[Prod.ext_iff]
theorem AQ:DT kW:=fun xs ys hx hy=>eqL (f:=fg xs ys) xs ys (by have:=(aG hx).1;omega) (fun i h h'=>by
 simp only[fg,bK h,if_true,aF h,aF h',aa,dH,BH xs[i] ys[i] ((aG hx).2 _ (List.getElem_mem h)) ((aG hy).2 _ (List.getElem_mem h')),af (show i<9223372036854775807 by have:=(aG hx).1;omega)]
 first | exact fE (by simp) | exact qg (by simp) | exact fE (by simp[Prod.ext_iff])) (by simp only[fg,bm];rfl)
theorem Gp:DT lL:=by
 intro x y hx hy
 unfold lL
 try simp only[dH,aa,BG x.1 y.1 hx.1 hy.1,AQ x.2 y.2 hx.2 hy.2]
 repeat' split
 all_goals simp_all[Prod.ext_iff]
theorem BI:DT jl:=by
 intro x y hx hy
 unfold jl
 try simp only[dH,aa]
 repeat' split
 all_goals simp_all[Prod.ext_iff]
theorem AR:DT kX:=fun xs ys hx hy=>eqL (f:=fh xs ys) xs ys (by have:=(aG hx).1;omega) (fun i h h'=>by
 simp only[fh,bK h,if_true,aF h,aF h',aa,dH,BI xs[i] ys[i] ((aG hx).2 _ (List.getElem_mem h)) ((aG hy).2 _ (List.getElem_mem h')),af (show i<9223372036854775807 by have:=(aG hx).1;omega)]
 first | exact fE (by simp) | exact qg (by simp) | exact fE (by simp[Prod.ext_iff])) (by simp only[fh,bm];rfl)
theorem CE:DT hY:=by
 intro x y hx hy
 unfold hY
 try simp only[dH,aa,Ic x.1 y.1 hx.1 hy.1,Gp x.2.1 y.2.1 hx.2.1 hy.2.1,AR x.2.2.1 y.2.2.1 hx.2.2.1 hy.2.2.1]
 repeat' split
 all_goals simp_all[Prod.ext_iff]
end D
namespace D
open Go.RowKit
theorem cX {R S:Type} {f:S->Option (Out R S)} (Inv:Nat->S->Prop) (Q:Out R S->Prop) (N:Nat)
  (h: ∀i s,i<=N->Inv i s->(i<N/\ ∃s',f s=some (.nxt s')/\Inv (i+1) s')\/ ∃o,f s=some o/\(∀s',o≠ .nxt s')/\Q o) {s:S} (h0:Inv 0 s) (hN:N<aW): ∃o,ax f aW s=some o/\Q o:=by
 have key: ∀(k i:Nat) (s:S),i<=N->N<i+k->Inv i s-> ∃o,ax f k s=some o/\Q o:=by
  intro k
  induction k with
  | zero=>intro i s h1 h2;omega
  | succ k ih =>
   intro i s h1 h2 hI
   rcases h i s h1 hI with ⟨hi,s',e,hI'⟩ | ⟨o,e,hn,hq⟩
   ·obtain ⟨o,e',hq⟩:=ih (i+1) s' (by omega) (by omega) hI'
    exact ⟨o,by rw[ax,e];exact e',hq⟩
   ·refine ⟨o,?_,hq⟩
    rw[ax,e]
    cases o with
    | nxt s'=>exact absurd rfl (hn s')
    | brk s'=>rfl
    | ret r=>rfl
 exact key aW 0 s (by omega) (by omega) h0
theorem nL {R S:Type} {f:S->Option (Out R S)} (Inv:Nat->S->Prop) (N:Nat) (h: ∀i s,i<N->Inv i s-> ∃s',f s=some (.nxt s')/\Inv (i+1) s') (he: ∀s,Inv N s->f s=some (.brk s)) {s:S} (h0:Inv 0 s) (hN:N<aW): ∃s',ax f aW s=some (.brk s')/\Inv N s':=by
 obtain ⟨o,e,s',rfl,h⟩:=cX (f:=f) Inv (fun o=> ∃s',o= .brk s'/\Inv N s') N (fun i s hi hI=>by
  by_cases h1:i<N
  ·exact .inl ⟨h1,h i s h1 hI⟩
  ·obtain rfl:i=N:=by omega
   exact .inr ⟨_,he s hI,(fun s' e=>by cases e),s,rfl,hI⟩) h0 hN
 exact ⟨s',e,h⟩
theorem bc {R S:Type} {f:S->Option (Out R S)} (st:Nat->S) (N:Nat) (h: ∀i,i<N->f (st i)=some (.nxt (st (i+1)))) (he:f (st N)=some (.brk (st N))) (hN:N<aW):ax f aW (st 0)=some (.brk (st N)):=Gk st N h he hN
theorem tE {k:Nat} (h:k<=9223372036854775807):k<aW:=dz k h
theorem pA {i:Nat} (h:i<=9223372036854775807):IntKind.i64.wrap ((i:Int) - 1)=(i:Int) - 1:=eV (by omega) (by omega)
theorem aL {α:Type} {b:Nat} {xs ys:List α} (h:(xs.length+ys.length)*b<=140737488355328):cJ b xs ys=some (xs++ys):=by unfold cJ;rw[if_pos h]
theorem cC {R S T:Type} {x:Option (Out R S)} {r:R} {kr:R->Option T} {k:S->Option T} (h:x=some (.ret r)):aP x kr k=kr r:=by rw[h];rfl
theorem aw {R S T:Type} {x:Option (Out R S)} {s:S} {kr:R->Option T} {k:S->Option T} (h:x=some (.brk s)):aP x kr k=k s:=by rw[h];rfl
def nth {α:Type} [Inhabited α] (xs:List α) (i:Int):α:=xs.getD i.toNat default
section
variable {α:Type} [Inhabited α] {xs ys:List α}
theorem aC {i:Int} (h0:0<=i) (h1:i<xs.length):aQ xs i=some (nth xs i):=by
 unfold aQ nth
 rw[if_pos h0]
 have:i.toNat<xs.length:=by omega
 simp[List.getD_eq_getElem?_getD,this]
theorem bW {i:Nat} (h:i<xs.length):nth xs (i:Int)=xs[i]:=by simp[nth,List.getD_eq_getElem?_getD,h]
theorem b7 {i:Int} (h0:0<=i) (h1:i<xs.length):nth xs i∈xs:=by
 have:i.toNat<xs.length:=by omega
 have e:nth xs i=xs[i.toNat]:=by simp[nth,List.getD_eq_getElem?_getD,this]
 rw[e];exact List.getElem_mem this
theorem ig {i:Int} (h0:0<=i) (h1:i<xs.length):nth (xs++ys) i=nth xs i:=by
 have:i.toNat<xs.length:=by omega
 simp[nth,List.getD_eq_getElem?_getD,List.getElem?_append_left this]
theorem Ie {x:α} (h:x∈xs): ∃i:Nat,i<xs.length/\nth xs (i:Int)=x:=by
 obtain ⟨i,hi,rfl⟩:=List.getElem_of_mem h
 exact ⟨i,hi,bW hi⟩
theorem Gq {i:Int} {x:α} (h0:0<=i) (h1:i<xs.length):nth (xs.set i.toNat x) i=x:=by
 have:i.toNat<xs.length:=by omega
 simp[nth,List.getD_eq_getElem?_getD,this]
theorem Vf (h:xs.length=ys.length) (k: ∀i:Nat,i<xs.length->nth xs (i:Int)=nth ys (i:Int)):xs=ys:=by
 refine List.ext_getElem h fun i h1 h2=>?_
 have:=k i h1
 rwa [bW h1,bW h2] at this
end
section
variable {κ:Type} [DecidableEq κ]
def nbL (l:List κ):Option κ->List κ
 | none=>l
 | some x=>if x∈l then l else l++ [x]
def nbI (l:List κ):Option κ->Int
 | none=> -1
 | some x=>(l.idxOf x:Int)
def nbS (l:List κ) (os:List (Option κ)):List κ:=os.foldl nbL l
def nbR (l:List κ):List (Option κ)->List Int
 | [] =>[]
 | o::os=>nbI l o::nbR (nbL l o) os
theorem vJ (l:List κ) (os:List (Option κ)) (o:Option κ):nbS l (os++ [o])=nbL (nbS l os) o:=by simp[nbS]
theorem sG: ∀(l:List κ) (os:List (Option κ)) (o:Option κ),nbR l (os++ [o])=nbR l os++ [nbI (nbS l os) o]
 | l,[],o=>rfl
 | l,p::os,o=>by
  show nbI l p::nbR (nbL l p) (os++ [o])=nbI l p::nbR (nbL l p) os++ [nbI (nbS (nbL l p) os) o]
  rw[sG (nbL l p) os o];rfl
theorem eE: ∀(l:List κ) (os:List (Option κ)),(nbR l os).length=os.length
 | l,[] =>rfl
 | l,o::os=>by show (nbR (nbL l o) os).length+1=_;rw[eE];rfl
theorem Ld (l : List κ) (o : Option κ) : l <+: nbL l o := by
  cases o with
  | none => exact List.prefix_refl l
  | some x => unfold nbL; simp only; split
              · exact List.prefix_refl l
              · exact List.prefix_append l [x]
theorem lf: ∀(l:List κ) (os:List (Option κ)),l <+:nbS l os
 | l,[] =>List.prefix_refl l
 | l,o::os=>(Ld l o).trans (lf (nbL l o) os)
theorem Oa {l : List κ} {o : Option κ} (h : l.Nodup) : (nbL l o).Nodup := by
  cases o with
  | none => exact h
  | some x => unfold nbL; simp only; split
              · exact h
              · rename_i hx; exact List.nodup_append.2 ⟨h, by simp, by rintro a ha b hb rfl; simp at hb; exact hx (hb ▸ ha)⟩
theorem rX: ∀ {l:List κ} {os:List (Option κ)},l.Nodup->(nbS l os).Nodup
 | l,[],h=>h
 | l,o::os,h=>rX (l:=nbL l o) (os:=os) (Oa h)
theorem Ob {l : List κ} {o : Option κ} {x : κ} : x ∈ nbL l o ↔ x ∈ l \/ o = some x := by
  cases o with
  | none => simp [nbL]
  | some y => unfold nbL; simp only; split
              · rename_i h; constructor
                · exact .inl
                · rintro (h' | h')
                  · exact h'
                  · simp at h'; exact h' ▸ h
              · simp; exact or_congr Iff.rfl eq_comm
theorem wW: ∀ {l:List κ} {os:List (Option κ)} {x:κ},x∈nbS l os↔x∈l\/some x∈os
 | l,[],x=>by simp[nbS]
 | l,o::os,x=>by
  show x∈nbS (nbL l o) os↔_
  rw[wW,Ob,List.mem_cons,or_assoc]
  exact or_congr Iff.rfl (or_congr eq_comm Iff.rfl)
theorem mr {l:List κ} {x:κ} (h:x∈l):nbL l (some x)=l:=by simp[nbL,h]
theorem lh {l:List κ} {x:κ} (h:x∉l):nbL l (some x)=l++ [x]:=by simp[nbL,h]
theorem pB {l:List κ} {x:κ} (h:x∉l):l.idxOf x=l.length:=List.idxOf_eq_length h
def bfS (nx:κ->List (Option κ)) (first:κ):Nat->List κ
 | 0=>[first]
 | i+1=>match (bfS nx first i)[i]? with
  | some x=>nbS (bfS nx first i) (nx x)
  | none=>bfS nx first i
def bfR (nx:κ->List (Option κ)) (first:κ):Nat->List (List Int)
 | 0=>[]
 | i+1=>bfR nx first i++(match (bfS nx first i)[i]? with
  | some x=>[nbR (bfS nx first i) (nx x)]
  | none=>[])
variable {nx:κ->List (Option κ)} {first:κ}
theorem DX {i:Nat} (h:i<(bfS nx first i).length):bfS nx first (i+1)=nbS (bfS nx first i) (nx ((bfS nx first i)[i])):=by
 rw[bfS,List.getElem?_eq_getElem h]
theorem vK {i:Nat} (h:i<(bfS nx first i).length):bfR nx first (i+1)=bfR nx first i++ [nbR (bfS nx first i) (nx ((bfS nx first i)[i]))]:=by
 rw[bfR,List.getElem?_eq_getElem h]
theorem bO (i:Nat):bfS nx first i <+:bfS nx first (i+1):=by
 rw[bfS]
 split
 ·exact lf _ _
 ·exact List.prefix_refl _
theorem wX {i j:Nat} (h:i<=j):bfS nx first i <+:bfS nx first j:=by
 induction h with
 | refl=>exact List.prefix_refl _
 | step _ ih=>exact ih.trans (bO _)
theorem nM: ∀i,(bfS nx first i).Nodup
 | 0=>by simp[bfS]
 | i+1=>by
  rw[bfS]
  split
  ·exact rX (nM i)
  ·exact nM i
theorem kH {G:κ->Prop} (h0:G first) (h: ∀x,G x-> ∀y,some y∈nx x->G y): ∀i,∀x∈bfS nx first i,G x
 | 0=>by simp[bfS];exact h0
 | i+1=>by
  rw[bfS]
  split
  ·rename_i y hy
   intro x hx
   rcases wW.1 hx with hx | hx
   ·exact kH h0 h i x hx
   ·exact h y (kH h0 h i y (List.mem_of_getElem? hy)) x hx
  ·exact kH h0 h i
theorem Gr (i:Nat):(bfS nx first i)[0]? =some first:=by
 obtain ⟨t,ht⟩:=wX (nx:=nx) (first:=first) (Nat.zero_le i)
 rw[<-ht];rfl
theorem jP: ∀ {i:Nat},(∀j,j<i->j<(bfS nx first j).length)->(bfR nx first i).length=i
 | 0,_=>rfl
 | i+1,h=>by rw[vK (h i (by omega)),al,jP fun j hj=>h j (by omega)];rfl
def bfE (nx:κ->List (Option κ)) (first:κ) (N:Nat):Prop:=N=(bfS nx first N).length/\ ∀i,i<N->i<(bfS nx first i).length
theorem SR {B:Nat} (hB: ∀i,(bfS nx first i).length<=B): ∃N,N<=B/\bfE nx first N:=by
 have key: ∀m i,i+m=B->(∀j,j<i->j<(bfS nx first j).length)-> ∃N,N<=B/\bfE nx first N:=by
  intro m
  induction m with
  | zero =>
   intro i hi hj
   have h1:=hB i
   have h2:i<=(bfS nx first i).length:=by
    cases i with
    | zero=>omega
    | succ i =>
     have:=hj i (by omega)
     have hp:=(bO (nx:=nx) (first:=first) i).length_le
     omega
   exact ⟨i,by omega,by omega,hj⟩
  | succ m ih =>
   intro i hi hj
   by_cases h:i<(bfS nx first i).length
   ·exact ih (i+1) (by omega) fun j hj'=>by
     by_cases e:j=i
     ·subst e;exact h
     ·exact hj j (by omega)
   ·have h2:i<=(bfS nx first i).length:=by
     cases i with
     | zero=>omega
     | succ i =>
      have:=hj i (by omega)
      have hp:=(bO (nx:=nx) (first:=first) i).length_le
      omega
    exact ⟨i,by omega,by omega,hj⟩
 exact key B 0 (by omega) (by omega)
theorem Rk {N M:Nat} (h:bfE nx first N) (k:bfE nx first M):N=M:=by
 rcases Nat.lt_trichotomy N M with e | e | e
 ·have:=k.2 N e;have:=h.1;omega
 ·exact e
 ·have:=h.2 M e;have:=k.1;omega
end
end D
namespace D
open Go.RowKit
section
variable {α:Type} [Inhabited α]
def smk (mk:α->Nat):List α->Nat
 | [] =>0
 | x::xs=>mk x+smk mk xs
def mkd (mk:α->Nat) (m:α->Nat->α):List α->Nat->List α
 | [],_=>[]
 | x::xs,k=>m x k::mkd mk m xs (k+mk x)
theorem DY (mk:α->Nat): ∀(xs:List α) (x:α),smk mk (xs++ [x])=smk mk xs+mk x
 | [],x=>by simp[smk]
 | y::xs,x=>by simp[smk,DY mk xs x,Nat.add_assoc]
theorem DZ (mk:α->Nat) (m:α->Nat->α): ∀(xs:List α) (x:α) (k:Nat),mkd mk m (xs++ [x]) k=mkd mk m xs k++ [m x (k+smk mk xs)]
 | [],x,k=>by simp[mkd,smk]
 | y::xs,x,k=>by simp[mkd,smk,DZ mk m xs x,Nat.add_assoc]
theorem bf (mk:α->Nat) (m:α->Nat->α): ∀(xs:List α) (k:Nat),(mkd mk m xs k).length=xs.length
 | [],_=>rfl
 | x::xs,k=>by simp[mkd,bf mk m xs]
theorem D0 (mk:α->Nat) (m:α->Nat->α): ∀(xs:List α) (k i:Nat),(mkd mk m xs k).take i=mkd mk m (xs.take i) k
 | [],_,_=>by simp[mkd]
 | x::xs,k,0=>by simp[mkd]
 | x::xs,k,i+1=>by simp[mkd,D0 mk m xs]
theorem Rl {xs:List α} {k:Nat} (h:k<xs.length):xs.take (k+1)=xs.take k++ [nth xs (k:Int)]:=by
 rw[List.take_succ_eq_append_getElem h,bW h]
theorem W0 (mk:α->Nat) (m:α->Nat->α) (xs:List α) (k:Nat) {i:Nat} (h:i<xs.length):nth (mkd mk m xs k) (i:Int)=m (nth xs (i:Int)) (k+smk mk (xs.take i)):=by
 have h':i<(mkd mk m xs k).length:=by rw[bf];exact h
 have e:=Rl h'
 rw[D0,D0,Rl h,DZ] at e
 have:=List.append_cancel_left e
 simpa using this.symm
theorem D1 (mk:α->Nat) {xs:List α} {i:Nat} (h:i<xs.length):smk mk (xs.take (i+1))=smk mk (xs.take i)+mk (nth xs (i:Int)):=by rw[Rl h,DY]
theorem Oc (mk:α->Nat): ∀(xs:List α) (i:Nat),smk mk (xs.take i)<=smk mk xs
 | [],_=>by simp
 | x::xs,0=>by simp[smk]
 | x::xs,i+1=>by simp[smk];exact Oc mk xs i
theorem jb (mk:α->Nat) {B:Nat} : ∀(xs:List α),(∀x∈xs,mk x<=B)->smk mk xs<=xs.length*B
 | [],_=>by simp[smk]
 | x::xs,h=>by
  have h1:=jb mk xs fun y hy=>h y (by simp[hy])
  have h2:=h x (by simp)
  simp only[smk,ak,Nat.add_mul,Nat.one_mul];omega
theorem Vg {xs ys:List α} {i:Nat} (hi:i<xs.length) (hl:ys.length=i) (x:α):(ys++xs.drop i).set i x=ys++ [x] ++xs.drop (i+1):=by
 rw[List.set_append_right _ _ (by omega),hl,Nat.sub_self,List.drop_eq_getElem_cons hi,List.set_cons_zero,ai];rfl
theorem D2 {R:Type} {f:List α×Int×Int->Option (Out R (List α×Int×Int))} (xs:List α) (mk:α->Nat) (m:α->Nat->α) (hN:xs.length<=9223372036854775807) {k:Nat} (hk:k+smk mk xs<=4611686018427387904)
  (hstep: ∀ys (i k:Nat),i<xs.length->ys.length=xs.length->nth ys (i:Int)=nth xs (i:Int)->k+mk (nth xs (i:Int))<=4611686018427387904->f (ys,(k:Int),(i:Int))=some (.nxt (ys.set i (m (nth xs (i:Int)) k),((k+mk (nth xs (i:Int)):Nat):Int),((i+1:Nat):Int))))
  (hend: ∀ys (k:Nat),ys.length=xs.length->f (ys,(k:Int),(xs.length:Int))=some (.brk (ys,(k:Int),(xs.length:Int)))) :
  ax f aW (xs,(k:Int),0)=some (.brk (mkd mk m xs k,((k+smk mk xs:Nat):Int),(xs.length:Int))):=by
 have hlen: ∀i,i<=xs.length->(mkd mk m (xs.take i) k++xs.drop i).length=xs.length:=fun i hi=>by
  rw[al,bf,aE,aV];omega
 have:=bc (f:=f) (fun i=>(mkd mk m (xs.take i) k++xs.drop i,((k+smk mk (xs.take i):Nat):Int),(i:Int))) xs.length (fun i hi=>by
  have hl:(mkd mk m (xs.take i) k).length=i:=by rw[bf,aE];omega
  have hle:=Oc mk xs (i+1)
  rw[D1 mk hi] at hle
  rw[hstep _ i (k+smk mk (xs.take i)) hi (hlen i (by omega)) ?_ (by omega),Vg hi hl,Rl hi,DZ,DY,Nat.add_assoc]
  have h':i<(mkd mk m (xs.take i) k++xs.drop i).length:=by rw[hlen i (by omega)];exact hi
  rw[bW h',bW hi,List.getElem_append_right (by omega)]
  simp[hl]) (by
  have:=hend (mkd mk m (xs.take xs.length) k++xs.drop xs.length) (k+smk mk (xs.take xs.length)) (hlen _ (aA _))
  exact this) (tE hN)
 simpa [mkd,smk] using this
theorem D3 {f:Int×Int->Option yK } (xs:List α) (mk:α->Nat) (m:α->Nat->α) (hN:xs.length<=9223372036854775807) {k:Nat} (hk:k+smk mk xs<=4611686018427387904)
  (hstep: ∀(i k':Nat),i<xs.length->nth (mkd mk m xs k) (i:Int)=m (nth xs (i:Int)) k'->k'+mk (nth xs (i:Int))<=4611686018427387904->f ((k':Int),(i:Int))=some (.nxt (((k'+mk (nth xs (i:Int)):Nat):Int),((i+1:Nat):Int))))
  (hend: ∀(k':Nat),f ((k':Int),(xs.length:Int))=some (.brk ((k':Int),(xs.length:Int)))) :
  ax f aW ((k:Int),0)=some (.brk (((k+smk mk xs:Nat):Int),(xs.length:Int))):=by
 have:=bc (f:=f) (fun i=>(((k+smk mk (xs.take i):Nat):Int),(i:Int))) xs.length (fun i hi=>by
  have hle:=Oc mk xs (i+1)
  rw[D1 mk hi] at hle
  rw[hstep i (k+smk mk (xs.take i)) hi (W0 mk m xs k hi) (by omega),D1 mk hi,Nat.add_assoc]) (hend _) (tE hN)
 simpa [smk] using this
end
end D
set_option synthInstance.maxSize 20000
set_option synthInstance.maxHeartbeats 2000000
namespace D
open Go.RowKit
theorem kI {α:Type} {xs:List α} {i:Nat} {x:α} (h:i<xs.length):aQ (xs.set i x) (i:Int)=some x:=by
 rw[aF (by rw[List.length_set];exact h)];simp
theorem Le {n:Nat} :decide ((n:Int)<0)=false:=by simp only[decide_eq_false_iff_not];omega
def ep (x:Int):Nat:=1
def AS (x:Int) (k:Nat):Int:=((k:Nat):Int)
theorem Od (xs:List Int) (hx:Data.sm xs):smk ep xs<=1048576*1:=by
 obtain ⟨h1,h2⟩:=aG hx
 have b:=jb ep (B:=1) xs (fun x hx=>by
  simp[ep])
 exact Nat.le_trans b (Nat.mul_le_mul_right _ h1)
theorem Oe (xs:List Int) (hx:Data.sm xs) {k:Nat} (hk:k+smk ep xs<=4611686018427387904):l5 xs (k:Int)=some (((k+smk ep xs:Nat):Int),mkd ep AS xs k):=by
 obtain ⟨hN,hs⟩:=aG hx
 unfold l5
 rw[aw (D2 (f:=ky) xs ep AS (by omega) hk (fun ys i k hi hl he hk=>by
  have hz0:=hs _ (b7 (xs:=xs) (i:=(i:Int)) (by omega) (by omega))
  unfold ky
  have hi':i<ys.length:=by omega
  generalize hz:nth xs (i:Int)=z at *
  have hk':k+(1)<=4611686018427387904:=hk
  simp only
  rw[if_pos (by simp;omega),aC (by omega) (by omega),he]
  simp only[aa,Int.toNat_natCast,kI hi',List.set_set,af (show i<9223372036854775807 by omega),af (show k<9223372036854775807 by omega)]
  have e:k+ep z=k+1:=by unfold ep;omega
  rw[e];rfl) (fun ys k hl=>by
  unfold ky
  simp only
  rw[if_neg (by simp;omega)]))]
theorem Of (xs:List Int) (hx:Data.sm xs) {k:Nat} (hk:k+smk ep xs<=4611686018427387904):l6 (mkd ep AS xs k) (k:Int)=some ((k+smk ep xs:Nat):Int):=by
 obtain ⟨hN,hs⟩:=aG hx
 unfold l6
 rw[aw (D3 (f:=kA _) xs ep AS (by omega) hk (fun i k' hi he hk=>by
  have hz0:=hs _ (b7 (xs:=xs) (i:=(i:Int)) (by omega) (by omega))
  unfold kA
  generalize hz:nth xs (i:Int)=z at *
  have hk':k'+(1)<=4611686018427387904:=hk
  simp only
  rw[if_pos (by simp[bf];omega),aC (by omega) (by rw[bf];omega),he]
  simp only[AS,aa,bne_self_eq_false,Bool.false_eq_true,if_false,Le,af (show i<9223372036854775807 by omega),af (show k'<9223372036854775807 by omega)]
  have e:k'+ep z=k'+1:=by unfold ep;omega
  rw[e]) (fun k'=>by
  unfold kA
  simp only
  rw[if_neg (by simp[bf])]))]
def eW (x:Int×Int×Int×Int):Nat:=1+1+1+1
def wY (x:Int×Int×Int×Int) (k:Nat):Int×Int×Int×Int:=(((k:Nat):Int),((k+1:Nat):Int),((k+1+1:Nat):Int),((k+1+1+1:Nat):Int))
theorem Rm (xs:List Yq4) (hx:Data.sm xs):smk eW xs<=1048576*4:=by
 obtain ⟨h1,h2⟩:=aG hx
 have b:=jb eW (B:=4) xs (fun x hx=>by
  simp[eW])
 exact Nat.le_trans b (Nat.mul_le_mul_right _ h1)
theorem Rn (xs:List Yq4) (hx:Data.sm xs) {k:Nat} (hk:k+smk eW xs<=4611686018427387904):mH xs (k:Int)=some (((k+smk eW xs:Nat):Int),mkd eW wY xs k):=by
 obtain ⟨hN,hs⟩:=aG hx
 unfold mH
 rw[aw (D2 (f:=jn) xs eW wY (by omega) hk (fun ys i k hi hl he hk=>by
  have hz0:=hs _ (b7 (xs:=xs) (i:=(i:Int)) (by omega) (by omega))
  unfold jn
  have hi':i<ys.length:=by omega
  generalize hz:nth xs (i:Int)=z at *
  have hk':k+(1+1+1+1)<=4611686018427387904:=hk
  simp only
  rw[if_pos (by simp;omega),aC (by omega) (by omega),he]
  simp only[aa,Int.toNat_natCast,kI hi',List.set_set,af (show i<9223372036854775807 by omega),af (show k<9223372036854775807 by omega),af (show k+1<9223372036854775807 by omega),af (show k+1+1<9223372036854775807 by omega),af (show k+1+1+1<9223372036854775807 by omega)]
  have e:k+eW z=k+1+1+1+1:=by unfold eW;omega
  rw[e];rfl) (fun ys k hl=>by
  unfold jn
  simp only
  rw[if_neg (by simp;omega)]))]
theorem Ro (xs:List Yq4) (hx:Data.sm xs) {k:Nat} (hk:k+smk eW xs<=4611686018427387904):mK (mkd eW wY xs k) (k:Int)=some ((k+smk eW xs:Nat):Int):=by
 obtain ⟨hN,hs⟩:=aG hx
 unfold mK
 rw[aw (D3 (f:=jt _) xs eW wY (by omega) hk (fun i k' hi he hk=>by
  have hz0:=hs _ (b7 (xs:=xs) (i:=(i:Int)) (by omega) (by omega))
  unfold jt
  generalize hz:nth xs (i:Int)=z at *
  have hk':k'+(1+1+1+1)<=4611686018427387904:=hk
  simp only
  rw[if_pos (by simp[bf];omega),aC (by omega) (by rw[bf];omega),he]
  simp only[wY,aa,bne_self_eq_false,Bool.false_eq_true,if_false,Le,af (show i<9223372036854775807 by omega),af (show k'<9223372036854775807 by omega),af (show k'+1<9223372036854775807 by omega),af (show k'+1+1<9223372036854775807 by omega),af (show k'+1+1+1<9223372036854775807 by omega)]
  have e:k'+eW z=k'+1+1+1+1:=by unfold eW;omega
  rw[e]) (fun k'=>by
  unfold jt
  simp only
  rw[if_neg (by simp[bf])]))]
def dC (x:(List Int)×Yq1):Nat:=smk ep (x.1)+smk eW (x.2)
def sH (x:(List Int)×Yq1) (k:Nat):(List Int)×Yq1:=(mkd ep AS (x.1) (k),mkd eW wY (x.2) (k+smk ep (x.1)))
theorem Og (xs:List DA) (hx:Data.sm xs):smk dC xs<=1048576*5242880:=by
 obtain ⟨h1,h2⟩:=aG hx
 have b:=jb dC (B:=5242880) xs (fun x hx=>by
  have hs:=h2 x hx
  have q0:=Od (x.1) hs.1
  have q1:=Rm (x.2) hs.2
  unfold dC;omega)
 exact Nat.le_trans b (Nat.mul_le_mul_right _ h1)
theorem Oh (xs:List DA) (hx:Data.sm xs) {k:Nat} (hk:k+smk dC xs<=4611686018427387904):lN xs (k:Int)=some (((k+smk dC xs:Nat):Int),mkd dC sH xs k):=by
 obtain ⟨hN,hs⟩:=aG hx
 unfold lN
 rw[aw (D2 (f:=iD) xs dC sH (by omega) hk (fun ys i k hi hl he hk=>by
  have hz0:=hs _ (b7 (xs:=xs) (i:=(i:Int)) (by omega) (by omega))
  unfold iD
  have hi':i<ys.length:=by omega
  generalize hz:nth xs (i:Int)=z at *
  have hk':k+(smk ep (z.1)+smk eW (z.2))<=4611686018427387904:=hk
  have m0:=Oe (z.1) hz0.1 (k:=k) (by omega)
  have m1:=Rn (z.2) hz0.2 (k:=k+smk ep (z.1)) (by omega)
  simp only
  rw[if_pos (by simp;omega),aC (by omega) (by omega),he]
  simp only[aa,Int.toNat_natCast,kI hi',List.set_set,af (show i<9223372036854775807 by omega),m0,m1]
  have e:k+dC z=k+smk ep (z.1)+smk eW (z.2):=by unfold dC;omega
  rw[e];rfl) (fun ys k hl=>by
  unfold iD
  simp only
  rw[if_neg (by simp;omega)]))]
theorem Oi (xs:List DA) (hx:Data.sm xs) {k:Nat} (hk:k+smk dC xs<=4611686018427387904):lP (mkd dC sH xs k) (k:Int)=some ((k+smk dC xs:Nat):Int):=by
 obtain ⟨hN,hs⟩:=aG hx
 unfold lP
 rw[aw (D3 (f:=iF _) xs dC sH (by omega) hk (fun i k' hi he hk=>by
  have hz0:=hs _ (b7 (xs:=xs) (i:=(i:Int)) (by omega) (by omega))
  unfold iF
  generalize hz:nth xs (i:Int)=z at *
  have hk':k'+(smk ep (z.1)+smk eW (z.2))<=4611686018427387904:=hk
  have m0:=Of (z.1) hz0.1 (k:=k') (by omega)
  have m1:=Ro (z.2) hz0.2 (k:=k'+smk ep (z.1)) (by omega)
  simp only
  rw[if_pos (by simp[bf];omega),aC (by omega) (by rw[bf];omega),he]
  simp only[sH,aa,bne_self_eq_false,Bool.false_eq_true,if_false,Le,af (show i<9223372036854775807 by omega),m0,m1]
  have e:k'+dC z=k'+smk ep (z.1)+smk eW (z.2):=by unfold dC;omega
  rw[e]) (fun k'=>by
  unfold iF
  simp only
  rw[if_neg (by simp[bf])]))]
def dD (x:Bool):Nat:=1
def wZ (x:Bool) (k:Nat):Bool:=((Int.tmod ((k:Nat):Int) 3)==0)
theorem Rp (xs:List Bool) (hx:Data.sm xs):smk dD xs<=1048576*1:=by
 obtain ⟨h1,h2⟩:=aG hx
 have b:=jb dD (B:=1) xs (fun x hx=>by
  simp[dD])
 exact Nat.le_trans b (Nat.mul_le_mul_right _ h1)
theorem Rq (xs:List Bool) (hx:Data.sm xs) {k:Nat} (hk:k+smk dD xs<=4611686018427387904):mI xs (k:Int)=some (((k+smk dD xs:Nat):Int),mkd dD wZ xs k):=by
 obtain ⟨hN,hs⟩:=aG hx
 unfold mI
 rw[aw (D2 (f:=jo) xs dD wZ (by omega) hk (fun ys i k hi hl he hk=>by
  have hz0:=hs _ (b7 (xs:=xs) (i:=(i:Int)) (by omega) (by omega))
  unfold jo
  have hi':i<ys.length:=by omega
  generalize hz:nth xs (i:Int)=z at *
  have hk':k+(1)<=4611686018427387904:=hk
  simp only
  rw[if_pos (by simp;omega),aC (by omega) (by omega),he]
  simp only[aa,Int.toNat_natCast,kI hi',List.set_set,af (show i<9223372036854775807 by omega),af (show k<9223372036854775807 by omega)]
  have e:k+dD z=k+1:=by unfold dD;omega
  rw[e];rfl) (fun ys k hl=>by
  unfold jo
  simp only
  rw[if_neg (by simp;omega)]))]
theorem Rr (xs:List Bool) (hx:Data.sm xs) {k:Nat} (hk:k+smk dD xs<=4611686018427387904):mL (mkd dD wZ xs k) (k:Int)=some ((k+smk dD xs:Nat):Int):=by
 obtain ⟨hN,hs⟩:=aG hx
 unfold mL
 rw[aw (D3 (f:=ju _) xs dD wZ (by omega) hk (fun i k' hi he hk=>by
  have hz0:=hs _ (b7 (xs:=xs) (i:=(i:Int)) (by omega) (by omega))
  unfold ju
  generalize hz:nth xs (i:Int)=z at *
  have hk':k'+(1)<=4611686018427387904:=hk
  simp only
  rw[if_pos (by simp[bf];omega),aC (by omega) (by rw[bf];omega),he]
  simp only[wZ,aa,bne_self_eq_false,Bool.false_eq_true,if_false,Le,af (show i<9223372036854775807 by omega),af (show k'<9223372036854775807 by omega)]
  have e:k'+dD z=k'+1:=by unfold dD;omega
  rw[e]) (fun k'=>by
  unfold ju
  simp only
  rw[if_neg (by simp[bf])]))]
def eX (x:List Int):Nat:=smk ep (x)
def w4 (x:List Int) (k:Nat):List Int:=mkd ep AS x k
theorem Rs (xs:List (List Int)) (hx:Data.sm xs):smk eX xs<=1048576*1048576:=by
 obtain ⟨h1,h2⟩:=aG hx
 have b:=jb eX (B:=1048576) xs (fun x hx=>by
  have hs:=h2 x hx
  have q0:=Od (x) hs
  unfold eX;omega)
 exact Nat.le_trans b (Nat.mul_le_mul_right _ h1)
theorem Rt (xs:List (List Int)) (hx:Data.sm xs) {k:Nat} (hk:k+smk eX xs<=4611686018427387904):mJ xs (k:Int)=some (((k+smk eX xs:Nat):Int),mkd eX w4 xs k):=by
 obtain ⟨hN,hs⟩:=aG hx
 unfold mJ
 rw[aw (D2 (f:=jq) xs eX w4 (by omega) hk (fun ys i k hi hl he hk=>by
  have hz0:=hs _ (b7 (xs:=xs) (i:=(i:Int)) (by omega) (by omega))
  unfold jq
  have hi':i<ys.length:=by omega
  generalize hz:nth xs (i:Int)=z at *
  have hk':k+(smk ep (z))<=4611686018427387904:=hk
  have m0:=Oe (z) hz0 (k:=k) (by omega)
  simp only
  rw[if_pos (by simp;omega),aC (by omega) (by omega),he]
  simp only[aa,Int.toNat_natCast,kI hi',List.set_set,af (show i<9223372036854775807 by omega),m0]
  have e:k+eX z=k+smk ep (z):=by unfold eX;omega
  rw[e];rfl) (fun ys k hl=>by
  unfold jq
  simp only
  rw[if_neg (by simp;omega)]))]
theorem Ru (xs:List (List Int)) (hx:Data.sm xs) {k:Nat} (hk:k+smk eX xs<=4611686018427387904):mM (mkd eX w4 xs k) (k:Int)=some ((k+smk eX xs:Nat):Int):=by
 obtain ⟨hN,hs⟩:=aG hx
 unfold mM
 rw[aw (D3 (f:=jv _) xs eX w4 (by omega) hk (fun i k' hi he hk=>by
  have hz0:=hs _ (b7 (xs:=xs) (i:=(i:Int)) (by omega) (by omega))
  unfold jv
  generalize hz:nth xs (i:Int)=z at *
  have hk':k'+(smk ep (z))<=4611686018427387904:=hk
  have m0:=Of (z) hz0 (k:=k') (by omega)
  simp only
  rw[if_pos (by simp[bf];omega),aC (by omega) (by rw[bf];omega),he]
  simp only[w4,aa,bne_self_eq_false,Bool.false_eq_true,if_false,Le,af (show i<9223372036854775807 by omega),m0]
  have e:k'+eX z=k'+smk ep (z):=by unfold eX;omega
  rw[e]) (fun k'=>by
  unfold jv
  simp only
  rw[if_neg (by simp[bf])]))]
def br (x:Int×(List Bool)×(List (List Int))):Nat:=1+smk dD (x.2.1)+smk eX (x.2.2)
def jQ (x:Int×(List Bool)×(List (List Int))) (k:Nat):Int×(List Bool)×(List (List Int)):=(((k:Nat):Int),mkd dD wZ (x.2.1) (k+1),mkd eX w4 (x.2.2) (k+1+smk dD (x.2.1)))
theorem D4 (xs:List Yq2) (hx:Data.sm xs):smk br xs<=1048576*1099512676353:=by
 obtain ⟨h1,h2⟩:=aG hx
 have b:=jb br (B:=1099512676353) xs (fun x hx=>by
  have hs:=h2 x hx
  have q0:=Rp (x.2.1) hs.2.1
  have q1:=Rs (x.2.2) hs.2.2
  unfold br;omega)
 exact Nat.le_trans b (Nat.mul_le_mul_right _ h1)
theorem D5 (xs:List Yq2) (hx:Data.sm xs) {k:Nat} (hk:k+smk br xs<=4611686018427387904):gE xs (k:Int)=some (((k+smk br xs:Nat):Int),mkd br jQ xs k):=by
 obtain ⟨hN,hs⟩:=aG hx
 unfold gE
 rw[aw (D2 (f:=eO) xs br jQ (by omega) hk (fun ys i k hi hl he hk=>by
  have hz0:=hs _ (b7 (xs:=xs) (i:=(i:Int)) (by omega) (by omega))
  unfold eO
  have hi':i<ys.length:=by omega
  generalize hz:nth xs (i:Int)=z at *
  have hk':k+(1+smk dD (z.2.1)+smk eX (z.2.2))<=4611686018427387904:=hk
  have m0:=Rq (z.2.1) hz0.2.1 (k:=k+1) (by omega)
  have m1:=Rt (z.2.2) hz0.2.2 (k:=k+1+smk dD (z.2.1)) (by omega)
  simp only
  rw[if_pos (by simp;omega),aC (by omega) (by omega),he]
  simp only[aa,Int.toNat_natCast,kI hi',List.set_set,af (show i<9223372036854775807 by omega),af (show k<9223372036854775807 by omega),m0,m1]
  have e:k+br z=k+1+smk dD (z.2.1)+smk eX (z.2.2):=by unfold br;omega
  rw[e];rfl) (fun ys k hl=>by
  unfold eO
  simp only
  rw[if_neg (by simp;omega)]))]
theorem D6 (xs:List Yq2) (hx:Data.sm xs) {k:Nat} (hk:k+smk br xs<=4611686018427387904):gF (mkd br jQ xs k) (k:Int)=some ((k+smk br xs:Nat):Int):=by
 obtain ⟨hN,hs⟩:=aG hx
 unfold gF
 rw[aw (D3 (f:=eP _) xs br jQ (by omega) hk (fun i k' hi he hk=>by
  have hz0:=hs _ (b7 (xs:=xs) (i:=(i:Int)) (by omega) (by omega))
  unfold eP
  generalize hz:nth xs (i:Int)=z at *
  have hk':k'+(1+smk dD (z.2.1)+smk eX (z.2.2))<=4611686018427387904:=hk
  have m0:=Rr (z.2.1) hz0.2.1 (k:=k'+1) (by omega)
  have m1:=Ru (z.2.2) hz0.2.2 (k:=k'+1+smk dD (z.2.1)) (by omega)
  simp only
  rw[if_pos (by simp[bf];omega),aC (by omega) (by rw[bf];omega),he]
  simp only[jQ,aa,bne_self_eq_false,Bool.false_eq_true,if_false,Le,af (show i<9223372036854775807 by omega),af (show k'<9223372036854775807 by omega),m0,m1]
  have e:k'+br z=k'+1+smk dD (z.2.1)+smk eX (z.2.2):=by unfold br;omega
  rw[e]) (fun k'=>by
  unfold eP
  simp only
  rw[if_neg (by simp[bf])]))]
def cE (x:Int×Int×Int×Int):Nat:=1+1+1+1
def sI (x:Int×Int×Int×Int) (k:Nat):Int×Int×Int×Int:=(((k:Nat):Int),((k+1:Nat):Int),((k+1+1:Nat):Int),((k+1+1+1:Nat):Int))
theorem Oj (xs:List Yq4) (hx:Data.sm xs):smk cE xs<=1048576*4:=by
 obtain ⟨h1,h2⟩:=aG hx
 have b:=jb cE (B:=4) xs (fun x hx=>by
  simp[cE])
 exact Nat.le_trans b (Nat.mul_le_mul_right _ h1)
theorem Ok (xs:List Yq4) (hx:Data.sm xs) {k:Nat} (hk:k+smk cE xs<=4611686018427387904):lO xs (k:Int)=some (((k+smk cE xs:Nat):Int),mkd cE sI xs k):=by
 obtain ⟨hN,hs⟩:=aG hx
 unfold lO
 rw[aw (D2 (f:=iE) xs cE sI (by omega) hk (fun ys i k hi hl he hk=>by
  have hz0:=hs _ (b7 (xs:=xs) (i:=(i:Int)) (by omega) (by omega))
  unfold iE
  have hi':i<ys.length:=by omega
  generalize hz:nth xs (i:Int)=z at *
  have hk':k+(1+1+1+1)<=4611686018427387904:=hk
  simp only
  rw[if_pos (by simp;omega),aC (by omega) (by omega),he]
  simp only[aa,Int.toNat_natCast,kI hi',List.set_set,af (show i<9223372036854775807 by omega),af (show k<9223372036854775807 by omega),af (show k+1<9223372036854775807 by omega),af (show k+1+1<9223372036854775807 by omega),af (show k+1+1+1<9223372036854775807 by omega)]
  have e:k+cE z=k+1+1+1+1:=by unfold cE;omega
  rw[e];rfl) (fun ys k hl=>by
  unfold iE
  simp only
  rw[if_neg (by simp;omega)]))]
theorem Ol (xs:List Yq4) (hx:Data.sm xs) {k:Nat} (hk:k+smk cE xs<=4611686018427387904):lQ (mkd cE sI xs k) (k:Int)=some ((k+smk cE xs:Nat):Int):=by
 obtain ⟨hN,hs⟩:=aG hx
 unfold lQ
 rw[aw (D3 (f:=iG _) xs cE sI (by omega) hk (fun i k' hi he hk=>by
  have hz0:=hs _ (b7 (xs:=xs) (i:=(i:Int)) (by omega) (by omega))
  unfold iG
  generalize hz:nth xs (i:Int)=z at *
  have hk':k'+(1+1+1+1)<=4611686018427387904:=hk
  simp only
  rw[if_pos (by simp[bf];omega),aC (by omega) (by rw[bf];omega),he]
  simp only[sI,aa,bne_self_eq_false,Bool.false_eq_true,if_false,Le,af (show i<9223372036854775807 by omega),af (show k'<9223372036854775807 by omega),af (show k'+1<9223372036854775807 by omega),af (show k'+1+1<9223372036854775807 by omega),af (show k'+1+1+1<9223372036854775807 by omega)]
  have e:k'+cE z=k'+1+1+1+1:=by unfold cE;omega
  rw[e]) (fun k'=>by
  unfold iG
  simp only
  rw[if_neg (by simp[bf])]))]
def bt (x:Int×(Yq1)×Int):Nat:=1+smk cE (x.2.1)+1
def iK (x:Int×(Yq1)×Int) (k:Nat):Int×(Yq1)×Int:=(((k:Nat):Int),mkd cE sI (x.2.1) (k+1),((k+1+smk cE (x.2.1):Nat):Int))
theorem BJ (xs:List Yq9) (hx:Data.sm xs):smk bt xs<=1048576*4194306:=by
 obtain ⟨h1,h2⟩:=aG hx
 have b:=jb bt (B:=4194306) xs (fun x hx=>by
  have hs:=h2 x hx
  have q0:=Oj (x.2.1) hs.2.1
  unfold bt;omega)
 exact Nat.le_trans b (Nat.mul_le_mul_right _ h1)
theorem BK (xs:List Yq9) (hx:Data.sm xs) {k:Nat} (hk:k+smk bt xs<=4611686018427387904):fZ xs (k:Int)=some (((k+smk bt xs:Nat):Int),mkd bt iK xs k):=by
 obtain ⟨hN,hs⟩:=aG hx
 unfold fZ
 rw[aw (D2 (f:=dV) xs bt iK (by omega) hk (fun ys i k hi hl he hk=>by
  have hz0:=hs _ (b7 (xs:=xs) (i:=(i:Int)) (by omega) (by omega))
  unfold dV
  have hi':i<ys.length:=by omega
  generalize hz:nth xs (i:Int)=z at *
  have hk':k+(1+smk cE (z.2.1)+1)<=4611686018427387904:=hk
  have m0:=Ok (z.2.1) hz0.2.1 (k:=k+1) (by omega)
  simp only
  rw[if_pos (by simp;omega),aC (by omega) (by omega),he]
  simp only[aa,Int.toNat_natCast,kI hi',List.set_set,af (show i<9223372036854775807 by omega),af (show k<9223372036854775807 by omega),af (show k+1+smk cE (z.2.1)<9223372036854775807 by omega),m0]
  have e:k+bt z=k+1+smk cE (z.2.1)+1:=by unfold bt;omega
  rw[e];rfl) (fun ys k hl=>by
  unfold dV
  simp only
  rw[if_neg (by simp;omega)]))]
theorem BL (xs:List Yq9) (hx:Data.sm xs) {k:Nat} (hk:k+smk bt xs<=4611686018427387904):gb (mkd bt iK xs k) (k:Int)=some ((k+smk bt xs:Nat):Int):=by
 obtain ⟨hN,hs⟩:=aG hx
 unfold gb
 rw[aw (D3 (f:=dX _) xs bt iK (by omega) hk (fun i k' hi he hk=>by
  have hz0:=hs _ (b7 (xs:=xs) (i:=(i:Int)) (by omega) (by omega))
  unfold dX
  generalize hz:nth xs (i:Int)=z at *
  have hk':k'+(1+smk cE (z.2.1)+1)<=4611686018427387904:=hk
  have m0:=Ol (z.2.1) hz0.2.1 (k:=k'+1) (by omega)
  simp only
  rw[if_pos (by simp[bf];omega),aC (by omega) (by rw[bf];omega),he]
  simp only[iK,aa,bne_self_eq_false,Bool.false_eq_true,if_false,Le,af (show i<9223372036854775807 by omega),af (show k'<9223372036854775807 by omega),af (show k'+1+smk cE (z.2.1)<9223372036854775807 by omega),m0]
  have e:k'+bt z=k'+1+smk cE (z.2.1)+1:=by unfold bt;omega
  rw[e]) (fun k'=>by
  unfold dX
  simp only
  rw[if_neg (by simp[bf])]))]
def bu (x:Int×Int×Int):Nat:=1+1+1
def iL (x:Int×Int×Int) (k:Nat):Int×Int×Int:=(((k:Nat):Int),((k+1:Nat):Int),((k+1+1:Nat):Int))
theorem BM (xs:List Ex) (hx:Data.sm xs):smk bu xs<=1048576*3:=by
 obtain ⟨h1,h2⟩:=aG hx
 have b:=jb bu (B:=3) xs (fun x hx=>by
  simp[bu])
 exact Nat.le_trans b (Nat.mul_le_mul_right _ h1)
theorem BN (xs:List Ex) (hx:Data.sm xs) {k:Nat} (hk:k+smk bu xs<=4611686018427387904):ga xs (k:Int)=some (((k+smk bu xs:Nat):Int),mkd bu iL xs k):=by
 obtain ⟨hN,hs⟩:=aG hx
 unfold ga
 rw[aw (D2 (f:=dW) xs bu iL (by omega) hk (fun ys i k hi hl he hk=>by
  have hz0:=hs _ (b7 (xs:=xs) (i:=(i:Int)) (by omega) (by omega))
  unfold dW
  have hi':i<ys.length:=by omega
  generalize hz:nth xs (i:Int)=z at *
  have hk':k+(1+1+1)<=4611686018427387904:=hk
  simp only
  rw[if_pos (by simp;omega),aC (by omega) (by omega),he]
  simp only[aa,Int.toNat_natCast,kI hi',List.set_set,af (show i<9223372036854775807 by omega),af (show k<9223372036854775807 by omega),af (show k+1<9223372036854775807 by omega),af (show k+1+1<9223372036854775807 by omega)]
  have e:k+bu z=k+1+1+1:=by unfold bu;omega
  rw[e];rfl) (fun ys k hl=>by
  unfold dW
  simp only
  rw[if_neg (by simp;omega)]))]
theorem BO (xs:List Ex) (hx:Data.sm xs) {k:Nat} (hk:k+smk bu xs<=4611686018427387904):gf (mkd bu iL xs k) (k:Int)=some ((k+smk bu xs:Nat):Int):=by
 obtain ⟨hN,hs⟩:=aG hx
 unfold gf
 rw[aw (D3 (f:=dY _) xs bu iL (by omega) hk (fun i k' hi he hk=>by
  have hz0:=hs _ (b7 (xs:=xs) (i:=(i:Int)) (by omega) (by omega))
  unfold dY
  generalize hz:nth xs (i:Int)=z at *
  have hk':k'+(1+1+1)<=4611686018427387904:=hk
  simp only
  rw[if_pos (by simp[bf];omega),aC (by omega) (by rw[bf];omega),he]
  simp only[iL,aa,bne_self_eq_false,Bool.false_eq_true,if_false,Le,af (show i<9223372036854775807 by omega),af (show k'<9223372036854775807 by omega),af (show k'+1<9223372036854775807 by omega),af (show k'+1+1<9223372036854775807 by omega)]
  have e:k'+bu z=k'+1+1+1:=by unfold bu;omega
  rw[e]) (fun k'=>by
  unfold dY
  simp only
  rw[if_neg (by simp[bf])]))]
def cq (x:Int×Yq5):Nat:=smk dC (x.2)
def vL (x:Int×Yq5) (k:Nat):Int×Yq5:=(x.1,mkd dC sH (x.2) (k))
theorem Lf (x:Int×Yq5) (hx:Data.sm x):cq x<=5497558138880:=by
 have q0:=Og (x.2) hx.2
 unfold cq;omega
theorem Lg (x:Int×Yq5) (hx:Data.sm x) {k:Nat} (hk:k+cq x<=4611686018427387904):kz x (k:Int)=some (((k+cq x:Nat):Int),vL x k):=by
 unfold cq at hk
 have m0:=Oh (x.2) hx.2 (k:=k) (by omega)
 unfold kz
 simp only[dH,aa,m0]
 have e:k+cq x=k+smk dC (x.2):=by unfold cq;omega
 rw[e];rfl
theorem Lh (x:Int×Yq5) (hx:Data.sm x) {k:Nat} (hk:k+cq x<=4611686018427387904):kB (vL x k) (k:Int)=some ((k+cq x:Nat):Int):=by
 unfold cq at hk
 have m0:=Oi (x.2) hx.2 (k:=k) (by omega)
 unfold kB vL
 simp only[dH,aa,Bool.false_eq_true,if_false,Le,m0]
 have e:k+cq x=k+smk dC (x.2):=by unfold cq;omega
 rw[e]
def cm (x:(List Yq2)×Yq3):Nat:=smk br (x.1)+smk bt (x.2)
def sJ (x:(List Yq2)×Yq3) (k:Nat):(List Yq2)×Yq3:=(mkd br jQ (x.1) (k),mkd bt iK (x.2) (k+smk br (x.1)))
theorem If (x:(List Yq2)×Yq3) (hx:Data.sm x):cm x<=1152927002168131584:=by
 have q0:=D4 (x.1) hx.1
 have q1:=BJ (x.2) hx.2
 unfold cm;omega
theorem Ig (x:(List Yq2)×Yq3) (hx:Data.sm x) {k:Nat} (hk:k+cm x<=4611686018427387904):jr x (k:Int)=some (((k+cm x:Nat):Int),sJ x k):=by
 unfold cm at hk
 have m0:=D5 (x.1) hx.1 (k:=k) (by omega)
 have m1:=BK (x.2) hx.2 (k:=k+smk br (x.1)) (by omega)
 unfold jr
 simp only[dH,aa,m0,m1]
 have e:k+cm x=k+smk br (x.1)+smk bt (x.2):=by unfold cm;omega
 rw[e];rfl
theorem Ih (x:(List Yq2)×Yq3) (hx:Data.sm x) {k:Nat} (hk:k+cm x<=4611686018427387904):jw (sJ x k) (k:Int)=some ((k+cm x:Nat):Int):=by
 unfold cm at hk
 have m0:=D6 (x.1) hx.1 (k:=k) (by omega)
 have m1:=BL (x.2) hx.2 (k:=k+smk br (x.1)) (by omega)
 unfold jw sJ
 simp only[dH,aa,Bool.false_eq_true,if_false,Le,m0,m1]
 have e:k+cm x=k+smk br (x.1)+smk bt (x.2):=by unfold cm;omega
 rw[e]
def jy (x:(Int×Yq5)×Yq8×Yq7×ByteArray):Nat:=cq (x.1)+cm (x.2.1)+smk bu (x.2.2.1)
def sK (x:(Int×Yq5)×Yq8×Yq7×ByteArray) (k:Nat):(Int×Yq5)×Yq8×Yq7×ByteArray:=(vL (x.1) (k),sJ (x.2.1) (k+cq (x.1)),mkd bu iL (x.2.2.1) (k+cq (x.1)+cm (x.2.1)),x.2.2.2)
theorem Gs (x:(Int×Yq5)×Yq8×Yq7×ByteArray) (hx:Data.sm x):jy x<=1152932499729416192:=by
 have q0:=Lf (x.1) hx.1
 have q1:=If (x.2.1) hx.2.1
 have q2:=BM (x.2.2.1) hx.2.2.1
 unfold jy;omega
theorem Gt (x:(Int×Yq5)×Yq8×Yq7×ByteArray) (hx:Data.sm x) {k:Nat} (hk:k+jy x<=4611686018427387904):eU x (k:Int)=some (((k+jy x:Nat):Int),sK x k):=by
 unfold jy at hk
 have m0:=Lg (x.1) hx.1 (k:=k) (by omega)
 have m1:=Ig (x.2.1) hx.2.1 (k:=k+cq (x.1)) (by omega)
 have m2:=BN (x.2.2.1) hx.2.2.1 (k:=k+cq (x.1)+cm (x.2.1)) (by omega)
 unfold eU
 simp only[dH,aa,m0,m1,m2]
 have e:k+jy x=k+cq (x.1)+cm (x.2.1)+smk bu (x.2.2.1):=by unfold jy;omega
 rw[e];rfl
theorem Om (x:(Int×Yq5)×Yq8×Yq7×ByteArray) (hx:Data.sm x) {k:Nat} (hk:k+jy x<=4611686018427387904):gu (sK x k) (k:Int)=some ((k+jy x:Nat):Int):=by
 unfold jy at hk
 have m0:=Lh (x.1) hx.1 (k:=k) (by omega)
 have m1:=Ih (x.2.1) hx.2.1 (k:=k+cq (x.1)) (by omega)
 have m2:=BO (x.2.2.1) hx.2.2.1 (k:=k+cq (x.1)+cm (x.2.1)) (by omega)
 unfold gu sK
 simp only[dH,aa,Bool.false_eq_true,if_false,Le,m0,m1,m2]
 have e:k+jy x=k+cq (x.1)+cm (x.2.1)+smk bu (x.2.2.1):=by unfold jy;omega
 rw[e]
end D
namespace D
abbrev Pr:=Int×Int
def ltP (a b:Pr):Prop:=a.1<b.1\/a.1=b.1/\a.2<b.2
instance (a b:Pr):Decidable (ltP a b):=inferInstanceAs (Decidable (_\/_))
end D
namespace D
open Go.RowKit
section
variable {l m:List Pr} {p:Pr}
end
end D
namespace D
open Go.RowKit
end D
set_option synthInstance.maxSize 20000
set_option synthInstance.maxHeartbeats 2000000
namespace D
open Go.RowKit
end D
set_option synthInstance.maxSize 20000
set_option synthInstance.maxHeartbeats 2000000
namespace D
open Go.RowKit
def mkB (l:List UInt8):ByteArray:=⟨l.toArray⟩
theorem Vh (a b:List UInt8):mkB a++mkB b=mkB (a++b):=ByteArray.ext (by simp[mkB])
theorem bM (a:List UInt8):(mkB a).size=a.length:=by simp[mkB,ByteArray.size]
theorem eS (a:List UInt8):(mkB a).data.toList=a:=by simp[mkB]
theorem BP (a b:List UInt8) (h:a.length+b.length<=9223372036854775807):lp (mkB a) (mkB b)=some (mkB (a++b)):=by
 unfold lp chk
 rw[bM,bM,if_pos h,aa,Vh]
theorem Zm: ∀d:Fin 10,IntKind.u8.wrap (IntKind.i64.wrap (48+(d.val:Int)))=48+(d.val:Int):=by decide
theorem Zn {d:Nat} (h:d<10):xj [IntKind.u8.wrap (IntKind.i64.wrap (48+(d:Int)))] =mkB [UInt8.ofNat (48+d)]:=by
 rw[Zm ⟨d,h⟩]
 show ByteArray.empty.push (UInt8.ofNat (48+(d:Int)).toNat)=_
 rw[show (48+(d:Int)).toNat=48+d by omega];rfl
theorem Zo (m:Int):(if decide ((Int.tmod m 10)<0) then (some (IntKind.i64.wrap (-(Int.tmod m 10)))) else (some (Int.tmod m 10)):Option Int)=some ((m.natAbs % 10:Nat):Int):=by
 by_cases h:m<0
 ·obtain ⟨k,rfl⟩: ∃k:Nat,m= -(k:Int):=⟨m.natAbs,by omega⟩
  have e:Int.tmod (-(k:Int)) 10= -((k % 10:Nat):Int):=by rw[Int.neg_tmod];rfl
  rw[e,Int.natAbs_neg,Int.natAbs_natCast]
  by_cases h0:k % 10=0
  ·rw[h0];rfl
  ·rw[if_pos (decide_eq_true (by omega)),Int.neg_neg,eV (by omega) (by omega)]
 ·obtain ⟨k,rfl⟩: ∃k:Nat,m=(k:Int):=⟨m.natAbs,by omega⟩
  have e:Int.tmod (k:Int) 10=((k % 10:Nat):Int):=rfl
  rw[e,if_neg (by simp;omega),Int.natAbs_natCast]
theorem Y8 {m:Int} (h:I64 m):Ps m 10=m.tdiv 10/\(m.tdiv 10).natAbs=m.natAbs / 10:=by
 have k:(m.tdiv 10).natAbs=m.natAbs / 10:=Int.natAbs_tdiv m 10
 unfold I64 at h
 refine ⟨?_,k⟩
 unfold Ps
 exact eV (by omega) (by omega)
theorem Vi {m:Int} {out:List UInt8} (h0:m≠0) (h:I64 m) (hl:out.length<=1000):dm (m,mkB out)=some (.nxt (m.tdiv 10,mkB (UInt8.ofNat (48+m.natAbs % 10)::out))):=by
 unfold dm
 simp only[]
 rw[if_pos (by simpa using h0),Zo,aa,Zn (Nat.mod_lt _ (by omega)),BP _ _ (by simp;omega),aa,(Y8 h).1];rfl
theorem SS (u:Nat):1<=Lib.nDigits u:=by
 by_cases h:u<10
 ·rw[Lib.nDigits_small h];omega
 ·rw[Lib.nDigits_big h];omega
theorem On: ∀(k:Nat) (m:Int) (out:List UInt8),m≠0->I64 m->Lib.nDigits m.natAbs<=k->out.length+Lib.nDigits m.natAbs<=100->ax dm (k+1) (m,mkB out)=some (.brk (0,mkB (Lib.decDigits m.natAbs++out)))
 | 0,m,out,_,_,h,_=>by have:=SS m.natAbs;omega
 | k+1,m,out,h0,hm,h,hl=>by
  rw[ax,Vi h0 hm (by omega)]
  show ax dm (k+1) (m.tdiv 10,_)=_
  have hq:=(Y8 hm).2
  by_cases h1:m.natAbs<10
  ·have hz:m.tdiv 10=0:=by
    have:(m.tdiv 10).natAbs=0:=by rw[hq];omega
    omega
   rw[hz,ax]
   have:dm (0,mkB (UInt8.ofNat (48+m.natAbs % 10)::out))=some (.brk (0,mkB (UInt8.ofNat (48+m.natAbs % 10)::out))):=rfl
   rw[this,Lib.decDigits_one h1,Nat.mod_eq_of_lt h1];rfl
  ·have hz:m.tdiv 10≠0:=by
    intro e
    rw[e] at hq
    have:m.natAbs / 10=0:=by simpa using hq.symm
    omega
   have hn:=Lib.nDigits_big h1
   have hi:I64 (m.tdiv 10):=by unfold I64 at hm⊢;omega
   rw[On k _ _ hz hi (by rw[hq];omega) (by rw[hq,ak];omega),hq]
   have:Lib.decDigits m.natAbs=Lib.decDigits (m.natAbs / 10)++ [UInt8.ofNat (48+m.natAbs % 10)]:=by rw[Lib.decDigits,dif_neg h1]
   rw[this,ai];rfl
theorem qP {n:Int} (h:I64 n):(Lib.itoa n).length<=21:=Lib.itoa_length_le n h.1 h.2
theorem Yo {n:Int} (h:I64 n):Lib.nDigits n.natAbs<=21:=by
 have:=qP h
 unfold Lib.itoa at this
 split at this
 ·rw[ak,Lib.decDigits_length] at this;omega
 ·rw[Lib.decDigits_length] at this
  rw[show n.natAbs=n.toNat by omega];exact this
theorem sL {n:Int} (h:I64 n):bY n=some (mkB (Lib.itoa n)):=by
 unfold bY
 by_cases h0:n=0
 ·subst h0
  rw[if_pos (by rfl:((0:Int)==0)=true)]
  have:Lib.itoa 0= [48]:=by unfold Lib.itoa;rw[if_neg (by decide)];exact Lib.decDigits_one (by decide)
  rw[this];rfl
 rw[if_neg (by simpa using h0)]
 have hn:=Yo h
 have hf:=dz 100 (by omega)
 obtain ⟨k,hk⟩: ∃k,aW=k+1:=⟨aW - 1,by omega⟩
 have hL:ax dm aW (n,(⟨#[]⟩:ByteArray))=some (.brk (0,mkB (Lib.decDigits n.natAbs++ []))):=by
  rw[hk];exact On k n [] h0 h (by omega) (by simp;omega)
 rw[aw hL,List.append_nil]
 have hd:(Lib.decDigits n.natAbs).length<=21:=by rw[Lib.decDigits_length];exact hn
 unfold Lib.itoa
 by_cases h1:n<0
 ·rw[if_pos (decide_eq_true h1),if_pos h1]
  show (lp (mkB [45]) _).bind _=_
  rw[BP _ _ (by simp;omega)];rfl
 ·rw[if_neg (by simpa using h1),if_neg h1,show n.natAbs=n.toNat by omega]
theorem vM {n:Int} (h:I64 n):cW n=some (mkB (Lib.itoa n)):=by
 unfold cW mf R.Ra chk
 rw[if_pos (show -9223372036854775808<=n/\n<=9223372036854775807 from h)];rfl
theorem Oo (xs:List (List UInt8)) (y sep:List UInt8):Lib.join (xs++ [y]) sep=if xs= [] then y else Lib.join xs sep++sep++y:=by
 cases xs with
 | nil=>rw[if_pos rfl];exact Lib.join_one _ _
 | cons x r =>
  rw[if_neg (by simp),List.cons_append,Lib.join_cons,Lib.join_cons]
  simp[Lib.joinTail,ai]
end D
namespace D
open Go.RowKit
theorem AT: ∀(a:List UInt8) (acc:Nat) (b:List UInt8),Lib.decFrom acc (a++b)=(Lib.decFrom acc a).bind fun m=>Lib.decFrom m b
 | [],acc,b=>rfl
 | x::a,acc,b=>by
  rw[List.cons_append,Lib.decFrom,Lib.decFrom]
  cases Lib.digitVal x with
  | none=>rfl
  | some d=>exact AT a _ b
theorem Oq {d:Nat} (h:d<10):Lib.digitVal (UInt8.ofNat (48+d))=some d:=by
 have e:(UInt8.ofNat (48+d)).toNat=48+d:=by simp;omega
 unfold Lib.digitVal
 rw[e,if_pos ⟨by omega,by omega⟩]
 congr 1;omega
theorem yL {u:Nat} (h: ¬u<10):Lib.decDigits u=Lib.decDigits (u / 10)++ [UInt8.ofNat (48+u % 10)]:=by rw[Lib.decDigits,dif_neg h]
theorem Ii (u:Nat):Lib.decFrom 0 (Lib.decDigits u)=some u:=by
 induction u using Nat.strongRecOn with
 | _ u ih =>
  by_cases h:u<10
  ·rw[Lib.decDigits_one h,Lib.decFrom,Oq h]
   simp[Lib.decFrom]
  ·rw[yL h,AT,ih (u / 10) (by omega),aa,Lib.decFrom,Oq (Nat.mod_lt _ (by omega))]
   simp only[Lib.decFrom]
   congr 1;omega
theorem W1 (u:Nat):Lib.decDigits u≠ []:=fun h=>by
 have:=Lib.decDigits_length u
 rw[h] at this
 have:=SS u
 simp at *;omega
theorem CF (u:Nat):Lib.decNat (Lib.decDigits u)=some u:=by
 unfold Lib.decNat
 rw[if_neg (by simpa using W1 u),Ii]
theorem JG (u:Nat): ∃d r,d<10/\Lib.decDigits u=UInt8.ofNat (48+d)::r:=by
 induction u using Nat.strongRecOn with
 | _ u ih =>
  by_cases h:u<10
  ·exact ⟨u,[],h,Lib.decDigits_one h⟩
  ·obtain ⟨d,r,hd,e⟩:=ih (u / 10) (by omega)
   exact ⟨d,_,hd,by rw[yL h,e];rfl⟩
theorem Ij {d:Nat} (h:d<10):(UInt8.ofNat (48+d)==45)=false/\(UInt8.ofNat (48+d)==43)=false:=by
 have: ∀d:Fin 10,(UInt8.ofNat (48+d.val)==45)=false/\(UInt8.ofNat (48+d.val)==43)=false:=by decide
 exact this ⟨d,h⟩
theorem Ot (n:Int):Lib.atoi (Lib.itoa n)=some n:=by
 unfold Lib.itoa
 by_cases h:n<0
 ·rw[if_pos h]
  show (Lib.decNat (Lib.decDigits n.natAbs)).map (fun (m:Nat)=> -(m:Int))=_
  rw[CF]
  simp;omega
 ·rw[if_neg h]
  obtain ⟨d,r,hd,e⟩:=JG n.toNat
  have k:=CF n.toNat
  rw[e] at k⊢
  show (if (UInt8.ofNat (48+d)==45)=true then _ else if (UInt8.ofNat (48+d)==43)=true then _ else _)=_
  rw[if_neg (by rw[(Ij hd).1];decide),if_neg (by rw[(Ij hd).2];decide),k]
  simp;omega
def dst (p:Nat×Nat) (b:UInt8):Nat×Nat:=if 48<=b.toNat/\b.toNat<=57 then (p.1*10+(b.toNat - 48),p.2+1) else p
theorem Ou {d:Nat} (h:d<10) (p:Nat×Nat):dst p (UInt8.ofNat (48+d))=(p.1*10+d,p.2+1):=by
 have e:(UInt8.ofNat (48+d)).toNat=48+d:=by simp;omega
 unfold dst
 rw[e,if_pos ⟨by omega,by omega⟩,show 48+d - 48=d by omega]
theorem Ov (u:Nat):(Lib.decDigits u).foldl dst (0,0)=(u,Lib.nDigits u):=by
 induction u using Nat.strongRecOn with
 | _ u ih =>
  by_cases h:u<10
  ·rw[Lib.decDigits_one h,List.foldl_cons,List.foldl_nil,Ou h,Lib.nDigits_small h];simp
  ·rw[yL h,List.foldl_append,ih (u / 10) (by omega),List.foldl_cons,List.foldl_nil,Ou (Nat.mod_lt _ (by omega)),Lib.nDigits_big h]
   congr 1
   show u / 10*10+u % 10=u
   omega
theorem Rv (n:Int):(Lib.itoa n).foldl dst (0,0)=(n.natAbs,Lib.nDigits n.natAbs):=by
 unfold Lib.itoa
 split
 ·rw[List.foldl_cons,show dst (0,0) 45=(0,0) from rfl,Ov]
 ·rw[Ov,show n.toNat=n.natAbs by omega]
theorem SU: ∀(l:List UInt8) (p:Nat×Nat),p.1<10 ^ p.2->(l.foldl dst p).1<10 ^ (l.foldl dst p).2
 | [],p,h=>h
 | b::l,p,h=>by
  rw[List.foldl_cons]
  refine SU l _ ?_
  unfold dst
  split
  ·rename_i k
   show p.1*10+(b.toNat - 48)<10 ^ (p.2+1)
   rw[Nat.pow_succ];omega
  ·exact h
theorem SV: ∀(l:List UInt8) (p:Nat×Nat),(l.foldl dst p).2<=p.2+l.length
 | [],p=>by simp
 | b::l,p=>by
  rw[List.foldl_cons]
  have:=SV l (dst p b)
  have h:(dst p b).2<=p.2+1:=by unfold dst;split <;> simp
  rw[ak];omega
end D
namespace D
open Go.RowKit
theorem W2: ∀(k u:Nat),1<=k->u<10 ^ k->Lib.nDigits u<=k
 | 0,u,h,_=>by omega
 | k+1,u,_,h=>by
  by_cases h1:u<10
  ·rw[Lib.nDigits_small h1];omega
  ·rw[Lib.nDigits_big h1]
   rw[Nat.pow_succ] at h
   have hk:1<=k:=by
    rcases k with _ | k
    ·simp at h;omega
    ·omega
   have:=W2 k (u / 10) hk (by omega)
   omega
theorem u8W: ∀d:Fin 10,IntKind.i64.wrap (IntKind.u8.wrap (d.val:Int))=(d.val:Int):=by decide
theorem yM {s:ByteArray} {i:Nat} (h:i<s.size):jD s (i:Int)=some (((s.data.toList[i]'(by simpa using h)).toNat:Nat):Int):=by
 unfold jD chk
 rw[if_pos ⟨by omega,by omega⟩]
 simp only[aa]
 rw[show (i:Int).toNat=i by omega,List.getD_eq_getElem?_getD,List.getElem?_eq_getElem (by simpa using h)]
 rfl
def dtk (s:ByteArray) (i:Nat):Nat×Nat:=(s.data.toList.take i).foldl dst (0,0)
theorem Ow (s:ByteArray) (i:Nat):(dtk s i).1<10 ^ (dtk s i).2/\(dtk s i).2<=i:=by
 refine ⟨SU _ _ (by decide),?_⟩
 have:=SV (s.data.toList.take i) (0,0)
 rw[aE] at this
 unfold dtk
 omega
theorem Vj (s:ByteArray):ax (gW s) aW (0,0,0)=some (.brk (((dtk s (min s.size 11)).1:Int),((dtk s (min s.size 11)).2:Int),((min s.size 11:Nat):Int))):=by
 refine bc (f:=gW s) (fun i=>(((dtk s i).1:Int),((dtk s i).2:Int),(i:Int))) (min s.size 11) (fun i hi=>?_) ?_ (dz _ (by omega))
 ·have h1:i<s.size:=by omega
  have hl:i<s.data.toList.length:=by simpa using h1
  have hd:dtk s (i+1)=dst (dtk s i) (s.data.toList[i]):=by
   unfold dtk
   rw[List.take_succ_eq_append_getElem hl,List.foldl_append];rfl
  obtain ⟨b1,b2⟩:=Ow s i
  have b3:10 ^ (dtk s i).2<=10 ^ 10:=Nat.pow_le_pow_right (by omega) (by omega)
  unfold gW
  simp only[]
  rw[if_pos (decide_eq_true (by omega)),if_pos (decide_eq_true (by omega)),yM h1,hd]
  generalize s.data.toList[i] =b
  generalize dtk s i=p at *
  simp only[aa]
  unfold dst
  by_cases c1:48<=b.toNat
  ·rw[if_pos (decide_eq_true (by omega))]
   by_cases c2:b.toNat<=57
   ·rw[if_pos (decide_eq_true (by omega)),if_pos ⟨c1,c2⟩]
    obtain ⟨d,hd,e⟩: ∃d,d<10/\b.toNat=48+d:=⟨b.toNat - 48,by omega,by omega⟩
    rw[e,show ((48+d:Nat):Int) - 48=(d:Int) by omega,u8W ⟨d,hd⟩]
    simp only[aa]
    rw[eV (n:=(p.1:Int)*10) (by omega) (by omega),eV (by show _<=_+(d:Int);omega) (by show _+(d:Int)<=_;omega),af (by omega),af (by omega)]
    congr 4
    show (p.1:Int)*10+(d:Int)=((p.1*10+(48+d - 48):Nat):Int)
    omega
   ·rw[if_neg (by simp;omega),if_neg (by omega)]
    simp only[aa]
    rw[af (by omega)]
  ·rw[if_neg (by simp;omega),if_neg (by omega)]
   simp only[aa]
   rw[af (by omega)]
 ·unfold gW
  simp only[]
  by_cases h:s.size<=11
  ·rw[Nat.min_eq_left h,if_neg (by simp)]
  ·rw[Nat.min_eq_right (by omega),if_pos (decide_eq_true (by omega)),if_neg (by simp)]
def sgn (s:ByteArray):Int:=if s.data.toList.head? =some 45 then -((dtk s (min s.size 11)).1:Int) else ((dtk s (min s.size 11)).1:Int)
theorem SW (s:ByteArray):(sgn s).natAbs<10 ^ (dtk s (min s.size 11)).2/\(sgn s).natAbs<10 ^ 11:=by
 obtain ⟨b1,b2⟩:=Ow s (min s.size 11)
 have b3:10 ^ (dtk s (min s.size 11)).2<=10 ^ 11:=Nat.pow_le_pow_right (by omega) (by omega)
 have:(sgn s).natAbs=(dtk s (min s.size 11)).1:=by unfold sgn;split <;> omega
 omega
theorem SX (s:ByteArray):fH s=if 9<(dtk s (min s.size 11)).2\/10<s.size then some (0,false) else if mkB (Lib.itoa (sgn s))=s then some (sgn s,true) else some (0,false):=by
 have hs:=(SW s).2
 have hi:I64 (sgn s):=by unfold I64;omega
 obtain ⟨b1,b2⟩:=Ow s (min s.size 11)
 have b3:10 ^ (dtk s (min s.size 11)).2<=10 ^ 11:=Nat.pow_le_pow_right (by omega) (by omega)
 have fin: ∀z:Int,z=sgn s->(if decide (((dtk s (min s.size 11)).2:Int)>9) then (some (0,false)) else (if decide (((s.size:Nat):Int)>10) then (some (0,false)) else ((bY z).bind fun r10=>if r10 !=s then (some (0,false)) else (some (z,true)))):Option (Int×Bool))=if 9<(dtk s (min s.size 11)).2\/10<s.size then some (0,false) else if mkB (Lib.itoa (sgn s))=s then some (sgn s,true) else some (0,false):=by
  rintro z rfl
  by_cases c1:9<(dtk s (min s.size 11)).2
  ·rw[if_pos (decide_eq_true (by omega)),if_pos (Or.inl c1)]
  ·rw[if_neg (by simp;omega)]
   by_cases c2:10<s.size
   ·rw[if_pos (decide_eq_true (by omega)),if_pos (Or.inr c2)]
   ·rw[if_neg (by simp;omega),if_neg (by omega),sL hi,aa]
    by_cases c3:mkB (Lib.itoa (sgn s))=s
    ·rw[if_pos c3,if_neg (by simp[c3])]
    ·rw[if_neg c3,if_pos (by simpa using c3)]
 unfold fH
 rw[aw (Vj s)]
 simp only[]
 by_cases h0:0<s.size
 ·rw[if_pos (decide_eq_true (by omega))]
  have hl:0<s.data.toList.length:=by simpa using h0
  have e0:jD s 0=some (((s.data.toList[0]).toNat:Nat):Int):=yM (i:=0) h0
  have eh:s.data.toList.head? =some s.data.toList[0]:=by rw[List.head?_eq_getElem?,List.getElem?_eq_getElem hl]
  rw[e0,aa]
  by_cases c:s.data.toList[0] =45
  ·rw[if_pos (by rw[c];rfl),aa,eV (by omega) (by omega)]
   exact fin _ (by unfold sgn;rw[eh,if_pos (by rw[c])])
  ·have hn:(s.data.toList[0]).toNat≠45:=fun e=>c (UInt8.toNat_inj.1 e)
   rw[if_neg (fun e=>hn (by have:=eq_of_beq e;omega)),aa]
   exact fin _ (by unfold sgn;rw[eh,if_neg (by simpa using c)])
 ·rw[if_neg (by rw[decide_eq_true_eq];omega)]
  have he:s.data.toList.head? =none:=by
   have:s.data.toList= []:=List.eq_nil_of_length_eq_zero (by
    have:s.data.toList.length=s.size:=by simp
    omega)
   rw[this];rfl
  exact fin _ (by unfold sgn;rw[he,if_neg (by simp)])
theorem Rw {n:Int} (h: -999999999<=n/\n<=999999999):Lib.nDigits n.natAbs<=9/\(Lib.itoa n).length<=10:=by
 have k:Lib.nDigits n.natAbs<=9:=W2 9 _ (by omega) (by omega)
 refine ⟨k,?_⟩
 unfold Lib.itoa
 split
 ·rw[ak,Lib.decDigits_length];omega
 ·rw[Lib.decDigits_length,show n.toNat=n.natAbs by omega];omega
theorem Ox (n:Int):((Lib.itoa n).head? =some 45)↔n<0:=by
 unfold Lib.itoa
 split
 ·rename_i h;simp[h]
 ·rename_i h
  obtain ⟨d,r,hd,e⟩:=JG n.toNat
  rw[e]
  have:=(Ij hd).1
  simp only[List.head?_cons,Option.some.injEq]
  constructor
  ·intro k;rw[k] at this;simp at this
  ·intro k;omega
theorem D7 {n:Int} (h: -999999999<=n/\n<=999999999):fH (mkB (Lib.itoa n))=some (n,true)/\fJ (mkB (Lib.itoa n))=some (n,true):=by
 obtain ⟨h9,h10⟩:=Rw h
 constructor
 ·have ed:dtk (mkB (Lib.itoa n)) (min (mkB (Lib.itoa n)).size 11)=(n.natAbs,Lib.nDigits n.natAbs):=by
   unfold dtk
   rw[eS,bM,Nat.min_eq_left (by omega),List.take_length,Rv]
  have es:sgn (mkB (Lib.itoa n))=n:=by
   unfold sgn
   rw[ed,eS]
   by_cases c:n<0
   ·rw[if_pos ((Ox n).2 c)];show -(n.natAbs:Int)=n;omega
   ·rw[if_neg fun k=>c ((Ox n).1 k)];show (n.natAbs:Int)=n;omega
  rw[SX,ed,es,bM,if_neg (by show¬(9<Lib.nDigits n.natAbs\/_);omega),if_pos rfl]
 ·unfold fJ R.rj
  rw[bM,eS,if_neg (by omega),Ot]
  show (if _ then _ else _)=_
  rw[if_pos ⟨rfl,h.1,h.2⟩]
theorem JH {s:ByteArray} (h: ¬ ∃n:Int,(-999999999<=n/\n<=999999999)/\s=mkB (Lib.itoa n)):fH s=some (0,false)/\fJ s=some (0,false):=by
 constructor
 ·rw[SX]
  by_cases c:9<(dtk s (min s.size 11)).2\/10<s.size
  ·rw[if_pos c]
  ·rw[if_neg c,if_neg]
   intro e
   have b1:=(SW s).1
   have b3:10 ^ (dtk s (min s.size 11)).2<=10 ^ 9:=Nat.pow_le_pow_right (by omega) (by omega)
   exact h ⟨sgn s,by omega,e.symm⟩
 ·unfold fJ R.rj
  by_cases c:10<s.size
  ·rw[if_pos c]
  ·rw[if_neg c]
   cases ha:Lib.atoi s.data.toList with
   | none=>rfl
   | some n =>
    show (if _ then _ else _)=_
    rw[if_neg fun k=>h ⟨n,k.2,k.1.symm⟩]
theorem qi (s:ByteArray): ∃r:Int×Bool,fH s=some r/\fJ s=some r/\((r.2=true/\(-999999999<=r.1/\r.1<=999999999)/\s=mkB (Lib.itoa r.1))\/r=(0,false)):=by
 by_cases h: ∃n:Int,(-999999999<=n/\n<=999999999)/\s=mkB (Lib.itoa n)
 ·obtain ⟨n,hn,rfl⟩:=h
  exact ⟨_,(D7 hn).1,(D7 hn).2,.inl ⟨rfl,hn,rfl⟩⟩
 ·exact ⟨_,(JH h).1,(JH h).2,.inr rfl⟩
end D
namespace D
open Go.RowKit
abbrev AutT:=Int×(List Bool)×(List (List Int))
structure VA (a:AutT) (n:Nat):Prop where
 len:a.2.1.length=n
 start:0<=a.1/\a.1<n
 nlen:a.2.2.length=n
 row: ∀r∈a.2.2,r.length=9
 ent: ∀r∈a.2.2,∀t∈r,-1<=t/\t<n
def mv (a:AutT) (s:Int) (k:Nat):Int:=nth (nth a.2.2 s) k
theorem Lz (x l h:Int):cD x l h=some (decide (l<=x/\x<=h)):=by
 unfold cD
 by_cases c:l<=x
 ·simp[c]
 ·have: ¬l<=x/\True:=⟨c,trivial⟩
  simp[c]
theorem GO (x l h:Int):bU x l h=some (decide (l<=x/\x<=h)):=by
 unfold bU
 by_cases c:l<=x
 ·simp[c]
 ·simp[c]
theorem scan {α R:Type} [Inhabited α] {f:Int->Option (Out R Int)} (xs:List α) (p:α->Prop) [DecidablePred p] (r:R) (hN:xs.length<=9223372036854775807)
  (h: ∀i:Nat,i<xs.length->f (i:Int)=some (if p (nth xs i) then .nxt ((i+1:Nat):Int) else .ret r)) (he:f (xs.length:Int)=some (.brk (xs.length:Int))) :
  (ax f aW 0=some (.brk (xs.length:Int))/\ ∀x∈xs,p x)\/(ax f aW 0=some (.ret r)/\ ¬ ∀x∈xs,p x):=by
 obtain ⟨o,e,hq⟩:=cX (f:=f) (fun i s=>s=(i:Int)/\ ∀j:Nat,j<i->p (nth xs j)) (fun o=>(o= .brk (xs.length:Int)/\ ∀x∈xs,p x)\/(o= .ret r/\ ¬ ∀x∈xs,p x)) xs.length (s:=0) (by
  rintro i s hi ⟨rfl,hp⟩
  by_cases hl:i<xs.length
  ·by_cases c:p (nth xs i)
   ·refine .inl ⟨hl,_,by rw[h i hl,if_pos c],rfl,fun j hj=>?_⟩
    by_cases e:j=i
    ·subst e;exact c
    ·exact hp j (by omega)
   ·refine .inr ⟨_,by rw[h i hl,if_neg c],(fun s' e=>by cases e),.inr ⟨rfl,fun hx=>c (hx _ (b7 (by omega) (by omega)))⟩⟩
  ·obtain rfl:i=xs.length:=by omega
   refine .inr ⟨_,he,(fun s' e=>by cases e),.inl ⟨rfl,fun x hx=>?_⟩⟩
   obtain ⟨j,hj,rfl⟩:=Ie hx
   exact hp j hj) ⟨rfl,by omega⟩ (tE hN)
 rcases hq with ⟨rfl,hq⟩ | ⟨rfl,hq⟩
 ·exact .inl ⟨e,hq⟩
 ·exact .inr ⟨e,hq⟩
section
variable {a:AutT} {n:Nat} (V:VA a n)
include V
theorem VA.pos:0<n:=by have:=V.start;omega
theorem VA.rowAt {s:Int} (h0:0<=s) (h1:s<n):(nth a.2.2 s).length=9:=V.row _ (b7 h0 (by rw[V.nlen];exact h1))
theorem VA.mv {s:Int} {k:Nat} (h0:0<=s) (h1:s<n) (hk:k<9): -1<=mv a s k/\mv a s k<n:=
 V.ent _ (b7 h0 (by rw[V.nlen];exact h1)) _ (b7 (by omega) (by rw[V.rowAt h0 h1];omega))
theorem VA.get {s:Int} (h0:0<=s) (h1:s<n):aQ a.2.2 s=some (nth a.2.2 s):=aC h0 (by rw[V.nlen];exact h1)
theorem VA.get2 {s:Int} {k:Nat} (h0:0<=s) (h1:s<n) (hk:k<9):aQ (nth a.2.2 s) (k:Int)=some (D.mv a s k):=aC (by omega) (by rw[V.rowAt h0 h1];omega)
theorem VA.acc {s:Int} (h0:0<=s) (h1:s<n):aQ a.2.1 s=some (nth a.2.1 s):=aC h0 (by rw[V.len];exact h1)
theorem W3 {s:Int} {k:Nat} (h0:0<=s) (h1:s<n) (hk:k<9):eJ a s (k:Int)=some (mv a s k):=by
 unfold eJ jJ
 rw[if_neg (by simp;omega),GO];simp only[aa]
 rw[if_pos (by simp;omega),V.get h0 h1];simp only[aa]
 rw[V.get2 h0 h1 hk];rfl
end
end D
namespace D
open Go.RowKit
theorem D8 (s:ByteArray):fG s=jL s:=by
 have e:fx s=nl s:=by
  funext p
  unfold fx nl
  rw[Int.mul_comm p.1 257]
 unfold fG jL
 rw[e]
theorem Gu (s:ByteArray) (h:s.size<=9223372036854775806): ∃r:Int,fG s=some r/\jL s=some r/\0<=r/\r<=9972:=by
 obtain ⟨p,e,h1,h2,h3⟩:=nL (f:=fx s) (fun i p=>p.2=(i:Int)/\0<=p.1/\p.1<=9972) s.size (fun i p hi hI=>by
  obtain ⟨n,j⟩:=p
  obtain ⟨h1,h2,h3⟩:=hI
  simp only at h1 h2 h3
  subst h1
  unfold fx
  simp only[]
  rw[if_pos (decide_eq_true (by omega)),yM hi]
  simp only[aa]
  generalize s.data.toList[i] =b
  have hb:b.toNat<256:=b.toNat_lt
  rw[eV (n:=((b.toNat:Nat):Int)) (by omega) (by omega),eV (n:=n*257) (by omega) (by omega),eV (n:=n*257+(b.toNat:Int)) (by omega) (by omega),eV (n:=n*257+(b.toNat:Int)+1) (by omega) (by omega),af (by omega)]
  refine ⟨_,rfl,rfl,?_,?_⟩
  ·exact Int.tmod_nonneg _ (by omega)
  ·have:Int.tmod (n*257+(b.toNat:Int)+1) 9973<9973:=Int.tmod_lt_of_pos _ (by decide)
   show Int.tmod (n*257+(b.toNat:Int)+1) 9973<=9972
   omega) (fun p hI=>by
  obtain ⟨n,j⟩:=p
  obtain ⟨h1,-⟩:=hI
  simp only at h1
  subst h1
  unfold fx
  simp only[]
  rw[if_neg (by simp)]) (s:=(1,0)) ⟨rfl,by decide,by decide⟩ (dz _ (by omega))
 have k:fG s=some p.1:=by
  unfold fG
  rw[aw e]
 exact ⟨p.1,k,by rw[<-D8];exact k,h2,h3⟩
def edOk (e:Int×Int×Int×Int):Prop:=(1<=e.1/\e.1<=99)/\(0<=e.2.1/\e.2.1<=4)/\(0<=e.2.2.1/\e.2.2.1<=4)/\(0<=e.2.2.2/\e.2.2.2<=2)
instance (e:Int×Int×Int×Int):Decidable (edOk e):=inferInstanceAs (Decidable (_/\_))
def rY (e:Int×Int×Int×Int):List UInt8:=Lib.itoa e.1++ [58] ++Lib.itoa e.2.1++ [UInt8.ofNat (97+e.2.2.2.toNat)] ++Lib.itoa e.2.2.1
theorem Rx: ∀k:Fin 3,eB (IntKind.i64.wrap (2*(k.val:Int)))=some (mkB [UInt8.ofNat (97+k.val)]):=by
 intro k
 match k with
 | ⟨0,_⟩=>rfl
 | ⟨1,_⟩=>rfl
 | ⟨2,_⟩=>rfl
theorem Ry: ∀k:Fin 3,qR (⟨#[97,98,99]⟩) (k.val:Int) (IntKind.i64.wrap ((k.val:Int)+1))=some (mkB [UInt8.ofNat (97+k.val)]):=by
 intro k
 match k with
 | ⟨0,_⟩=>rfl
 | ⟨1,_⟩=>rfl
 | ⟨2,_⟩=>rfl
theorem Oy (e:Int×Int×Int×Int):iW e=some (if edOk e then mkB (rY e) else mkB []):=by
 unfold iW
 rw[Lz,Lz,Lz,Lz]
 simp only[aa]
 by_cases h:edOk e
 ·obtain ⟨h1,h2,h3,h4⟩:=h
  rw[if_pos (decide_eq_true h1),if_pos (decide_eq_true h2),if_pos (decide_eq_true h3),if_pos (decide_eq_true h4),if_pos ⟨h1,h2,h3,h4⟩]
  have i1:I64 e.1:=by unfold I64;omega
  have i2:I64 e.2.1:=by unfold I64;omega
  have i3:I64 e.2.2.1:=by unfold I64;omega
  have n1:=qP i1
  have n2:=qP i2
  have n3:=qP i3
  obtain ⟨k,hk,ek⟩: ∃k:Nat,k<3/\e.2.2.2=(k:Int):=⟨e.2.2.2.toNat,by omega,by omega⟩
  rw[sL i1,sL i2,sL i3,ek,Rx ⟨k,hk⟩]
  simp only[aa]
  have c1:lp (mkB (Lib.itoa e.1)) (⟨#[58]⟩)=some (mkB (Lib.itoa e.1++ [58])):=BP _ [58] (by simp;omega)
  rw[c1]
  simp only[aa]
  rw[BP _ _ (by simp;omega)]
  simp only[aa]
  rw[BP _ _ (by simp;omega)]
  simp only[aa]
  rw[BP _ _ (by simp;omega)]
  simp only[aa]
  unfold rY
  rw[ek];rfl
 ·rw[if_neg h]
  split
  ·split
   ·split
    ·split
     ·rename_i a b c d
      exact absurd ⟨of_decide_eq_true a,of_decide_eq_true b,of_decide_eq_true c,of_decide_eq_true d⟩ h
     ·rfl
    ·rfl
   ·rfl
  ·rfl
theorem Oz (e:Int×Int×Int×Int):iX e=some (if edOk e then mkB (rY e) else mkB []):=by
 have h5:IntKind.i64.wrap (5 - 1)=4:=by decide
 have hok:jI (e.1,e.2.1,e.2.2.1,e.2.2.2) 5=some (decide (edOk e)):=by
  unfold jI
  rw[h5,GO,GO,GO,GO]
  simp only[aa]
  by_cases h1:1<=e.1/\e.1<=99
  ·rw[if_pos (decide_eq_true h1)]
   by_cases h2:0<=e.2.1/\e.2.1<=4
   ·rw[if_pos (decide_eq_true h2)]
    by_cases h3:0<=e.2.2.1/\e.2.2.1<=4
    ·rw[if_pos (decide_eq_true h3)]
     congr 1
     exact decide_eq_decide.2 ⟨fun h4=>⟨h1,h2,h3,h4⟩,fun h=>h.2.2.2⟩
    ·rw[if_neg (by simpa using h3),decide_eq_false (fun h:edOk e=>h3 h.2.2.1)]
   ·rw[if_neg (by simpa using h2),decide_eq_false (fun h:edOk e=>h2 h.2.1)]
  ·rw[if_neg (by simpa using h1),decide_eq_false (fun h:edOk e=>h1 h.1)]
 unfold iX
 rw[hok]
 simp only[aa]
 by_cases h:edOk e
 ·rw[if_pos (decide_eq_true h),if_pos h]
  obtain ⟨h1,h2,h3,h4⟩:=h
  have i1:I64 e.1:=by unfold I64;omega
  have i2:I64 e.2.1:=by unfold I64;omega
  have i3:I64 e.2.2.1:=by unfold I64;omega
  have n1:=qP i1
  have n2:=qP i2
  have n3:=qP i3
  obtain ⟨k,hk,ek⟩: ∃k:Nat,k<3/\e.2.2.2=(k:Int):=⟨e.2.2.2.toNat,by omega,by omega⟩
  rw[vM i1,vM i2,vM i3,ek,Ry ⟨k,hk⟩]
  simp only[aa]
  have c1:lp (mkB (Lib.itoa e.1)) (⟨#[58]⟩)=some (mkB (Lib.itoa e.1++ [58])):=BP _ [58] (by simp;omega)
  rw[c1]
  simp only[aa]
  rw[BP _ _ (by simp;omega)]
  simp only[aa]
  rw[BP _ _ (by simp;omega)]
  simp only[aa]
  rw[BP _ _ (by simp;omega)]
  simp only[aa]
  unfold rY
  rw[ek];rfl
 ·rw[if_neg (by simpa using h),if_neg h];rfl
end D
namespace D
open Go.RowKit
abbrev ChT:Type:=Bool×Int×Int×Int×Int
def oK (c:ChT):List UInt8:=(if c.1 then 43 else 45)::rY c.2
def btx (l:List ChT):List UInt8:=Lib.join (l.map oK) [32]
def yN (l:List ChT):Prop:= ∀c,c∈l->edOk c.2
theorem sM {e:Int×Int×Int×Int} (h:edOk e):(rY e).length<=70:=by
 obtain ⟨h1,h2,h3,h4⟩:=h
 have n1:=qP (n:=e.1) (by unfold I64;omega)
 have n2:=qP (n:=e.2.1) (by unfold I64;omega)
 have n3:=qP (n:=e.2.2.1) (by unfold I64;omega)
 unfold rY
 simp only[al,ak,aH];omega
theorem OA (e:Int×Int×Int×Int):(mkB (rY e)==(⟨#[]⟩:ByteArray))=false:=by
 rw[beq_eq_false_iff_ne]
 intro k
 have:=congrArg ByteArray.size k
 rw[bM] at this
 unfold rY at this
 simp only[al,ak,aH] at this
 have e0:(⟨#[]⟩:ByteArray).size=0:=rfl
 omega
theorem OB: ∀(r:List ChT),yN r->(Lib.joinTail [32] (r.map oK)).length<=72*r.length
 | [],_=>by simp[Lib.joinTail]
 | c::r,h=>by
  have h1:=OB r fun q hq=>h q (bh _ hq)
  have h2:=sM (h c (by simp))
  have e:Lib.joinTail [32] ((c::r).map oK)=([32] ++oK c)++Lib.joinTail [32] (r.map oK):=by simp[Lib.joinTail]
  rw[e,al,al,ak]
  unfold oK
  simp only[ak,aH]
  unfold oK at h1
  omega
theorem D9 {l:List ChT} (h:yN l):(btx l).length<=72*l.length:=by
 cases l with
 | nil=>simp[btx,Lib.join_nil]
 | cons c r =>
  have h1:=OB r fun q hq=>h q (bh _ hq)
  have h2:=sM (h c (by simp))
  unfold btx
  rw[List.map_cons,Lib.join_cons,al,ak]
  have:(oK c).length=(rY c.2).length+1:=by unfold oK;rw[ak]
  omega
theorem Rz {l:List ChT} {i:Nat} (hi:i<l.length):btx (l.take (i+1))=if i=0 then oK l[i] else btx (l.take i)++ [32] ++oK l[i]:=by
 unfold btx
 rw[List.take_succ_eq_append_getElem hi,aO,List.map_cons,List.map_nil,Oo]
 by_cases h:i=0
 ·subst h;rw[if_pos (by simp),if_pos rfl]
 ·rw[if_neg (by
   intro e
   have:=congrArg List.length e
   rw[List.length_map,aE,aH] at this
   omega),if_neg h]
theorem Gv {l:List ChT} {i:Nat} (hi:i<l.length) (h:yN (l.take i)) (k:edOk l[i].2):yN (l.take (i+1)):=by
 rw[List.take_succ_eq_append_getElem hi]
 intro c hc
 rcases aJ hc with hc | hc
 ·exact h c hc
 ·obtain rfl:=ay hc;exact k
theorem Vk {l:List ChT} (hl:l.length<=6):(yN l/\ax (eL l) aW (([] :List ByteArray),0)=some (.brk (l.map (fun c=>mkB (oK c)),(l.length:Int))))\/(¬yN l/\ax (eL l) aW (([] :List ByteArray),0)=some (.ret (mkB []))):=by
 obtain ⟨o,e,hQ⟩:=cX (f:=eL l) (fun i s=>s=((l.take i).map (fun c=>mkB (oK c)),(i:Int))/\yN (l.take i)) (fun o=>(yN l/\o= .brk (l.map (fun c=>mkB (oK c)),(l.length:Int)))\/(¬yN l/\o= .ret (mkB []))) l.length (fun i s hi hI=>by
  obtain ⟨rfl,hb⟩:=hI
  unfold eL
  simp only[]
  by_cases h1:i<l.length
  ·rw[bK h1,if_pos rfl,aF h1]
   simp only[aa]
   rw[Oz]
   simp only[aa]
   by_cases k:edOk l[i].2
   ·have n1:=sM k
    have c1:lp (⟨#[43]⟩) (mkB (rY l[i].2))=some (mkB (43::rY l[i].2)):=BP [43] _ (by simp;omega)
    have c2:lp (⟨#[45]⟩) (mkB (rY l[i].2))=some (mkB (45::rY l[i].2)):=BP [45] _ (by simp;omega)
    have hx: ∀z:ByteArray,cJ 16 ((l.take i).map (fun c=>mkB (oK c))) [z] =some ((l.take i).map (fun c=>mkB (oK c))++ [z]):=fun z=>aL (by rw[List.length_map,aE];simp only[ak,aH];omega)
    refine .inl ⟨h1,((l.take (i+1)).map (fun c=>mkB (oK c)),((i+1:Nat):Int)),?_,rfl,Gv h1 hb k⟩
    rw[if_pos k,if_neg (by rw[OA];decide),c1,c2]
    simp only[aa]
    rw[hx,hx,List.take_succ_eq_append_getElem h1,aO,List.map_cons,List.map_nil,<-af (show i<9223372036854775807 by omega)]
    have ec:oK l[i] =(if l[i].1=true then 43 else 45)::rY l[i].2:=rfl
    rw[ec]
    generalize l[i].1=t
    cases t <;> rfl
   ·refine .inr ⟨.ret (mkB []),?_,fun s' h=>(by simp at h),.inr ⟨fun h=>k (h _ (List.getElem_mem h1)),rfl⟩⟩
    rw[if_neg k];rfl
  ·obtain rfl:i=l.length:=by omega
   rw[List.take_length] at hb
   refine .inr ⟨_,by rw[bm];rfl,fun s' h=>(by simp at h),.inl ⟨hb,by rw[List.take_length]⟩⟩) (s:=([],0)) ⟨rfl,fun c hc=>by simp at hc⟩ (dz _ (by omega))
 rcases hQ with ⟨h,rfl⟩ | ⟨h,rfl⟩
 ·exact .inl ⟨h,e⟩
 ·exact .inr ⟨h,e⟩
theorem Vl {l:List ChT} (hl:l.length<=6):(yN l/\ax (eG l) aW ((⟨#[]⟩:ByteArray),0)=some (.brk (mkB (btx l),(l.length:Int))))\/(¬yN l/\ax (eG l) aW ((⟨#[]⟩:ByteArray),0)=some (.ret (mkB []))):=by
 obtain ⟨o,e,hQ⟩:=cX (f:=eG l) (fun i s=>s=(mkB (btx (l.take i)),(i:Int))/\yN (l.take i)) (fun o=>(yN l/\o= .brk (mkB (btx l),(l.length:Int)))\/(¬yN l/\o= .ret (mkB []))) l.length (fun i s hi hI=>by
  obtain ⟨rfl,hb⟩:=hI
  have hn:=D9 hb
  rw[aE] at hn
  unfold eG
  simp only[]
  by_cases h1:i<l.length
  ·rw[bK h1,if_pos rfl,aF h1]
   simp only[aa]
   rw[Oy]
   simp only[aa]
   by_cases k:edOk l[i].2
   ·have n1:=sM k
    refine .inl ⟨h1,(mkB (btx (l.take (i+1))),((i+1:Nat):Int)),?_,rfl,Gv h1 hb k⟩
    rw[if_pos k,if_neg (by rw[OA];decide),Rz h1,<-af (show i<9223372036854775807 by omega)]
    have ec:oK l[i] =(if l[i].1=true then 43 else 45)::rY l[i].2:=rfl
    rw[ec]
    generalize l[i].1=t
    have g1: ∀(a:List UInt8) (b:UInt8),a.length<=1000->lp (mkB a) (mkB [b])=some (mkB (a++ [b])):=fun a b ha=>BP _ _ (by simp;omega)
    have g2: ∀(a:List UInt8) (b:UInt8),a.length<=1000->lp (mkB (a++ [b])) (mkB (rY l[i].2))=some (mkB (a++b::rY l[i].2)):=fun a b ha=>by
     rw[BP _ _ (by simp;omega),ai];rfl
    by_cases h0:i=0
    ·subst h0
     have eb:btx (l.take 0)= []:=rfl
     have q1:=g1 [] 43 (by simp)
     have q2:=g1 [] 45 (by simp)
     have q3:=g2 [] 43 (by simp)
     have q4:=g2 [] 45 (by simp)
     have l1:(⟨#[43]⟩:ByteArray)=mkB [43]:=rfl
     have l2:(⟨#[45]⟩:ByteArray)=mkB [45]:=rfl
     rw[eb,if_pos rfl,if_neg (by simp)]
     simp only[aa]
     rw[l1,l2,q1,q2]
     simp only[aa]
     rw[q3,q4]
     cases t <;> rfl
    ·have hs:=g1 (btx (l.take i)) 32 (by omega)
     have q1:=g1 (btx (l.take i)++ [32]) 43 (by simp;omega)
     have q2:=g1 (btx (l.take i)++ [32]) 45 (by simp;omega)
     have q3:=g2 (btx (l.take i)++ [32]) 43 (by simp;omega)
     have q4:=g2 (btx (l.take i)++ [32]) 45 (by simp;omega)
     have l1:(⟨#[43]⟩:ByteArray)=mkB [43]:=rfl
     have l2:(⟨#[45]⟩:ByteArray)=mkB [45]:=rfl
     have l3:(⟨#[32]⟩:ByteArray)=mkB [32]:=rfl
     rw[if_neg h0,if_pos (decide_eq_true (by omega)),l1,l2,l3,hs]
     simp only[aa]
     rw[q1,q2]
     simp only[aa]
     rw[q3,q4]
     cases t <;> rfl
   ·refine .inr ⟨.ret (mkB []),?_,fun s' h=>(by simp at h),.inr ⟨fun h=>k (h _ (List.getElem_mem h1)),rfl⟩⟩
    rw[if_neg k];rfl
  ·obtain rfl:i=l.length:=by omega
   rw[List.take_length] at hb
   refine .inr ⟨_,by rw[bm];rfl,fun s' h=>(by simp at h),.inl ⟨hb,by rw[List.take_length]⟩⟩) (s:=((⟨#[]⟩:ByteArray),0)) ⟨rfl,fun c hc=>by simp at hc⟩ (dz _ (by omega))
 rcases hQ with ⟨h,rfl⟩ | ⟨h,rfl⟩
 ·exact .inl ⟨h,e⟩
 ·exact .inr ⟨h,e⟩
open Classical in
theorem sN (l:List ChT):cL l=some (if l.length<=6/\yN l then mkB (btx l) else mkB [])/\dN l=some (if l.length<=6/\yN l then mkB (btx l) else mkB []):=by
 unfold cL dN
 by_cases h6:l.length<=6
 ·have hd: ¬decide ((l.length:Int)>6)=true:=by rw[decide_eq_true_eq];omega
  constructor
  ·rw[if_neg hd]
   rcases Vl h6 with ⟨h,e⟩ | ⟨h,e⟩
   ·rw[aw e,if_pos ⟨h6,h⟩]
   ·rw[cC e,if_neg fun k=>h k.2]
  ·rw[if_neg hd]
   rcases Vk h6 with ⟨h,e⟩ | ⟨h,e⟩
   ·have hn:=D9 h
    rw[aw e,if_pos ⟨h6,h⟩]
    show (ji (l.map fun p=>mkB (oK p)) (mkB [32])).bind _=_
    unfold ji R.Q9 chk
    have e:(l.map fun p=>mkB (oK p)).map (·.data.toList)=l.map oK:=by
     rw[List.map_map]
     exact List.map_congr_left fun p _=>eS _
    rw[e,eS,List.length_map,if_pos ⟨by omega,by show (btx l).length<=_;omega⟩];rfl
   ·rw[cC e,if_neg fun k=>h k.2]
 ·have hd:decide ((l.length:Int)>6)=true:=decide_eq_true (by omega)
  constructor
  ·rw[if_pos hd,if_neg fun k=>h6 k.1];rfl
  ·rw[if_pos hd,if_neg fun k=>h6 k.1];rfl
end D
namespace D
open Go.RowKit
theorem AU (v:Int) (l:List ChT): ∃r:ByteArray,dn v l=some r/\eD v l=some r/\r.size<=1000:=by
 obtain ⟨es,ei⟩:=sN l
 obtain ⟨t,et,hn⟩: ∃t:List UInt8,(cL l=some (mkB t)/\dN l=some (mkB t))/\t.length<=432:=by
  by_cases h:l.length<=6/\yN l
  ·have:=D9 h.2
   refine ⟨btx l,⟨?_,?_⟩,by omega⟩
   ·rw[es,if_pos h]
   ·rw[ei,if_pos h]
  ·refine ⟨[],⟨?_,?_⟩,by simp⟩
   ·rw[es,if_neg h]
   ·rw[ei,if_neg h]
 obtain ⟨e1,e2⟩:=et
 unfold dn eD
 rw[e1,e2,Lz,GO]
 simp only[aa]
 by_cases hv:1<=v/\v<=999
 ·have iv:I64 v:=by unfold I64;omega
  have nv:=qP iv
  have c1:lp (mkB (Lib.itoa v)) (⟨#[59]⟩)=some (mkB (Lib.itoa v++ [59])):=BP _ [59] (by simp;omega)
  have c2:lp (mkB (Lib.itoa v++ [59])) (mkB t)=some (mkB (Lib.itoa v++ [59] ++t)):=BP _ _ (by simp;omega)
  have c3:lp (mkB (Lib.itoa v++ [59] ++t)) (⟨#[59]⟩)=some (mkB (Lib.itoa v++ [59] ++t++ [59])):=BP _ [59] (by simp;omega)
  obtain ⟨q,k1,k2,q1,q2⟩:=Gu (mkB (Lib.itoa v++ [59] ++t++ [59])) (by rw[bM];simp;omega)
  have iq:I64 q:=by unfold I64;omega
  have nq:=qP iq
  have c4:lp (mkB (Lib.itoa v++ [59] ++t++ [59])) (mkB (Lib.itoa q))=some (mkB (Lib.itoa v++ [59] ++t++ [59] ++Lib.itoa q)):=BP _ _ (by simp;omega)
  have c5:lp (mkB (Lib.itoa v++ [59] ++t++ [59] ++Lib.itoa q)) (⟨#[10]⟩)=some (mkB (Lib.itoa v++ [59] ++t++ [59] ++Lib.itoa q++ [10])):=BP _ [10] (by simp;omega)
  have hs:(mkB (Lib.itoa v++ [59] ++t++ [59] ++Lib.itoa q++ [10])).size<=1000:=by rw[bM];simp;omega
  have h0:((⟨#[]⟩:ByteArray)).size<=1000:=by decide
  rw[decide_eq_true hv]
  simp only[if_true,sL iv,vM iv,sL iq,vM iq,c1,c2,c3,k1,k2,c4,c5,aa]
  by_cases a:decide ((l.length:Int)>0)=true
  ·by_cases b:(mkB t==(⟨#[]⟩:ByteArray))=true
   ·simp only[if_pos a,if_pos b];exact ⟨_,rfl,rfl,h0⟩
   ·simp only[if_pos a,if_neg b];exact ⟨_,rfl,rfl,hs⟩
  ·by_cases b:(mkB t==(⟨#[]⟩:ByteArray))=true
   ·simp only[if_neg a,if_pos b];exact ⟨_,rfl,rfl,hs⟩
   ·simp only[if_neg a,if_neg b];exact ⟨_,rfl,rfl,hs⟩
 ·rw[decide_eq_false hv]
  exact ⟨_,rfl,rfl,by decide⟩
end D
namespace D
open Go.RowKit
def oL (c:UInt8) (cur:List UInt8):List UInt8->List (List UInt8)
 | [] =>[cur]
 | b::l=>if b=c then cur::oL c [] l else oL c (cur++ [b]) l
theorem nN {c:UInt8} : ∀ {l cur:List UInt8},c∉l->oL c cur l= [cur++l]
 | [],cur,_=>by simp[oL]
 | b::l,cur,h=>by
  have hb:b≠c:=fun e=>h (by simp[e])
  rw[oL,if_neg hb,nN fun k=>h (bh _ k)]
  simp
theorem qj {c:UInt8} : ∀ {a cur r:List UInt8},c∉a->oL c cur (a++c::r)=(cur++a)::oL c [] r
 | [],cur,r,_=>by simp[oL]
 | b::a,cur,r,h=>by
  have hb:b≠c:=fun e=>h (by simp[e])
  rw[List.cons_append,oL,if_neg hb,qj fun k=>h (bh _ k)]
  simp
theorem Ea (c:UInt8): ∀(l cur:List UInt8),(oL c cur l).length<=l.length+1
 | [],cur=>by simp[oL]
 | b::l,cur=>by
  rw[oL]
  split
  ·have:=Ea c l [];simp only[ak];omega
  ·have:=Ea c l (cur++ [b]);simp only[ak];omega
theorem rZ (c:UInt8): ∀(l cur:List UInt8),∀x∈oL c cur l,x.length<=cur.length+l.length
 | [],cur,x,h=>by simp[oL] at h;subst h;simp
 | b::l,cur,x,h=>by
  rw[oL] at h
  split at h
  ·rcases aD h with rfl | h
   ·simp
   ·have:=rZ c l [] x h;simp at this;simp;omega
  ·have:=rZ c l _ x h;simp at this;simp;omega
theorem sO (c:UInt8) (l:List UInt8):c∉l\/ ∃a r,l=a++c::r/\c∉a:=by
 by_cases h:c∈l
 ·obtain ⟨a,r,e,k⟩:=List.eq_append_cons_of_mem h
  exact .inr ⟨a,r,e,k⟩
 ·exact .inl h
theorem Eb (s:ByteArray):mkB s.data.toList=s:=by simp[mkB]
theorem W4 (s:ByteArray): ∃l:List UInt8,s=mkB l:=⟨_,(Eb s).symm⟩
theorem w5 {a b:List UInt8} (h:mkB a=mkB b):a=b:=by rw[<-eS a,h,eS]
theorem slB {l:List UInt8} {a b:Nat} (h1:a<=b) (h2:b<=l.length):qR (mkB l) (a:Int) (b:Int)=some (mkB ((l.take b).drop a)):=by
 unfold qR chk
 rw[bM,if_pos ⟨by omega,by omega,by omega⟩,aa]
 congr 1
 refine ByteArray.ext ?_
 simp[mkB,List.drop_take]
theorem atB {l:List UInt8} {i:Nat} (h:i<l.length):jD (mkB l) (i:Int)=some ((l[i].toNat:Nat):Int):=by
 rw[yM (by rw[bM];exact h)]
 simp[mkB]
theorem vN (l:List UInt8) (c:UInt8) (hl:l.length<=1000000):gV (mkB l) ((c.toNat:Nat):Int)=some ((oL c [] l).map mkB):=by
 obtain ⟨s,e,fr,done,rfl,h1,h2,h3⟩:=nL (f:=n9 (mkB l) ((c.toNat:Nat):Int)) (fun i s=> ∃(fr:Nat) (done:List (List UInt8)),s=(done.map mkB,(fr:Int),(i:Int))/\fr<=i/\done.length<=i/\done++oL c ((l.take i).drop fr) (l.drop i)=oL c [] l) l.length (fun i s hi hI=>by
  obtain ⟨fr,done,rfl,h1,h2,h3⟩:=hI
  unfold n9
  simp only[]
  rw[if_pos (decide_eq_true (by rw[bM];omega)),atB hi]
  simp only[aa]
  rw[List.drop_eq_getElem_cons hi,oL] at h3
  by_cases k:l[i] =c
  ·rw[if_pos k] at h3
   rw[if_pos (by rw[k];simp),slB h1 (by omega)]
   simp only[aa]
   have hx:cJ 16 (done.map mkB) [mkB ((l.take i).drop fr)] =some (done.map mkB++ [mkB ((l.take i).drop fr)]):=aL (by rw[List.length_map];simp only[ak,aH];omega)
   rw[hx]
   simp only[aa]
   refine ⟨_,rfl,i+1,done++ [(l.take i).drop fr],?_,aA _,by simp;omega,?_⟩
   ·rw[aO,List.map_cons,List.map_nil,af (by omega)]
   ·rw[<-h3,ai,List.drop_of_length_le (l:=l.take (i+1)) (by rw[aE];omega)];rfl
  ·rw[if_neg k] at h3
   rw[if_neg (fun e=>k (UInt8.toNat_inj.1 (by have:=eq_of_beq e;omega)))]
   simp only[aa]
   refine ⟨_,rfl,fr,done,?_,by omega,by omega,?_⟩
   ·rw[af (by omega)]
   ·rw[<-h3,List.take_succ_eq_append_getElem hi,List.drop_append_of_le_length (by rw[aE];omega)]) (fun s hI=>by
  obtain ⟨fr,done,rfl,h1,h2,h3⟩:=hI
  unfold n9
  simp only[]
  rw[if_neg (by rw[bM];simp)]) (s:=(([] :List ByteArray),0,0)) ⟨0,[],rfl,aA _,aA _,by simp⟩ (dz _ (by omega))
 unfold gV
 rw[aw e,bM]
 simp only[]
 rw[slB h1 (aA _)]
 simp only[aa]
 have hx:cJ 16 (done.map mkB) [mkB ((l.take l.length).drop fr)] =some (done.map mkB++ [mkB ((l.take l.length).drop fr)]):=aL (by rw[List.length_map];simp only[ak,aH];omega)
 rw[hx,<-h3,List.drop_length,oL]
 simp
theorem Ec {c:UInt8} : ∀ {l:List UInt8},c∉l->Lib.index l [c] = -1
 | [],_=>rfl
 | b::l,h=>by
  have hb:c≠b:=fun e=>h (by simp[e])
  have k:([c] :List UInt8).isPrefixOf (b::l)=false:=by simp[List.isPrefixOf,hb]
  rw[Lib.index,k,Ec fun k=>h (bh _ k)];rfl
theorem Ed {c:UInt8} : ∀ {a r:List UInt8},c∉a->Lib.index (a++c::r) [c] =(a.length:Int)
 | [],r,_=>by simp[Lib.index,List.isPrefixOf]
 | b::a,r,h=>by
  have hb:c≠b:=fun e=>h (by simp[e])
  have k:([c] :List UInt8).isPrefixOf (b::(a++c::r))=false:=by simp[List.isPrefixOf,hb]
  rw[List.cons_append,Lib.index,k,Ed fun k=>h (bh _ k)]
  rw[if_neg (by decide),if_neg (by rw[beq_iff_eq];omega),ak];omega
theorem Gw (c:UInt8): ∀(n:Nat) (l:List UInt8),l.length<=n->Lib.splitK [c] 0 (Lib.count l [c]) l=oL c [] l
 | n,l,h=>by
  rcases sO c l with k | ⟨a,r,rfl,k⟩
  ·have e:=Ec k
   rw[Lib.count_miss e,nN k];rfl
  ·have e:=Ed (r:=r) k
   have hd:(a++c::r).drop (a.length+1)=r:=by
    rw[<-List.drop_drop,List.drop_left];rfl
   rw[Lib.count_hit (by simp) e,qj k,Nat.add_comm 1,Lib.splitK,e,if_neg (by rw[beq_iff_eq];omega)]
   show List.take (a.length+0) _::Lib.splitK [c] 0 (Lib.count ((a++c::r).drop (a.length+1)) [c]) ((a++c::r).drop (a.length+1))=_
   rw[hd,Nat.add_zero,List.take_left]
   cases n with
   | zero=>simp at h
   | succ n=>rw[Gw c n r (by simp at h;omega)];rfl
theorem Ee (l:List UInt8) (c:UInt8) (hl:l.length<=1000000):cA (mkB l) (mkB [c])=some ((oL c [] l).map mkB):=by
 unfold cA R.Jx chk
 rw[bM,bM,if_pos ⟨by omega,by simp⟩,aa]
 congr 1
 have e:=Lib.splitB_data (mkB [c]) 0 (Lib.countB (mkB l) (mkB [c])) (mkB l)
 rw[eS,eS] at e
 have e2:Lib.countB (mkB l) (mkB [c])=Lib.count l [c]:=by unfold Lib.countB;rw[eS,eS]
 rw[e2,Gw c l.length l (aA _)] at e
 rw[e2,<-e,List.map_map]
 conv=>lhs;rw[<-List.map_id (Lib.splitB _ _ _ _)]
 exact List.map_congr_left fun x _=>(Eb x).symm
theorem RA {l:List UInt8} {c:UInt8} (hl:l.length<=1000000) (h:c∉l):cO (mkB l) (mkB [c])=some (mkB l,mkB [],false):=by
 unfold cO R.WR chk
 rw[bM,if_pos (by omega),aa,eS,eS]
 have:Lib.cut l [c] =(l,[],false):=by unfold Lib.cut;rw[Ec h,if_neg (by decide)]
 rw[this];rfl
theorem SY {a r:List UInt8} {c:UInt8} (hl:(a++c::r).length<=1000000) (h:c∉a):cO (mkB (a++c::r)) (mkB [c])=some (mkB a,mkB r,true):=by
 unfold cO R.WR chk
 rw[bM,if_pos (by omega),aa,eS,eS]
 have:Lib.cut (a++c::r) [c] =(a,r,true):=by
  unfold Lib.cut
  rw[Ed h,if_pos (by omega)]
  have hd:(a++c::r).drop (a.length+1)=r:=by
   rw[<-List.drop_drop,List.drop_left];rfl
  show (List.take a.length _,List.drop (a.length+1) _,true)=_
  rw[List.take_left,hd]
 rw[this];rfl
theorem JI {c:UInt8} : ∀ {l:List UInt8},c∉l->Lib.indexByte l c= -1
 | [],_=>rfl
 | b::l,h=>by
  have hb:b≠c:=fun e=>h (by simp[e])
  rw[Lib.indexByte,if_neg (by simpa using hb),JI fun k=>h (bh _ k)];rfl
theorem SZ {c:UInt8} : ∀ {a r:List UInt8},c∉a->Lib.indexByte (a++c::r) c=(a.length:Int)
 | [],r,_=>by simp[Lib.indexByte]
 | b::a,r,h=>by
  have hb:b≠c:=fun e=>h (by simp[e])
  rw[List.cons_append,Lib.indexByte,if_neg (by simpa using hb),SZ fun k=>h (bh _ k),if_neg (by rw[beq_iff_eq];omega),ak];omega
end D
end Go.Proofs.YtilionjghdjbdaaGreatDoor
