/- FnDeclarative: for every input the law returns true and changes nothing that was there. Part 6 of 8. -/
import Derived.Test.YtbhafdfiplkacaaGreatQC4
set_option linter.unusedVariables false
set_option linter.unusedSimpArgs false
set_option linter.unnecessarySimpa false
set_option linter.unusedSectionVars false
set_option maxRecDepth 1000000
namespace Go.Proofs.YtbhafdfiplkacaaGreat
namespace R
open Go.RowKit
open D
abbrev y3:Ty:=.int .i64
abbrev ud:Ty:=.prod y3 (.prod y3 (.prod y3 y3))
abbrev t116:Ty:=.tree 187 116 ud
abbrev y47:Ty:=.sl 3 y3
abbrev y4:Ty:=.bool
abbrev Gp:Ty:=.prod y47 (.prod y3 (.prod y3 (.prod y47 y4)))
abbrev WO:Ty:=.fro t116
abbrev Wm:Ty:=.prod y3 y4
abbrev XT:Ty:=.sl 206 Wm
abbrev y9:Ty:=.str
abbrev WQ:Ty:=.sl 9 y9
abbrev Qh:Ty:=.prod y3 (.prod y3 (.prod y3 y3))
abbrev y5:Ty:=.int .u8
abbrev y22:Ty:=.sl 5 y5
abbrev XU:Ty:=.prod y22 (.prod y3 y3)
abbrev Xx:Ty:=.prod y4 (.prod y3 y3)
abbrev Wn:Ty:=.sl 116 WO
abbrev XV:Ty:=.prod ud Wn
abbrev Xy:Ty:=.prod y3 (.prod y3 y4)
abbrev U4:Ty:=.int .u64
abbrev Xz:Ty:=.prod y3 y3
abbrev XA:Ty:=.prod Wm (.prod y3 y3)
abbrev WR:Ty:=.sl 240 XA
abbrev XB:Ty:=.sl 238 WR
abbrev y38:Ty:=.sl 4 y4
abbrev y39:Ty:=.sl 47 y47
abbrev y41:Ty:=.prod y3 (.prod y38 y39)
abbrev y24:Ty:=.sl 41 y41
abbrev y28:Ty:=.sl 156 ud
abbrev y30:Ty:=.wr y28
abbrev y95:Ty:=.prod y3 (.prod y30 y3)
abbrev y25:Ty:=.sl 95 y95
abbrev y27:Ty:=.prod y24 y25
abbrev XC:Ty:=.prod Wm (.prod y3 y3)
abbrev XW:Ty:=.sl 275 XC
abbrev XD:Ty:=.prod y3 (.prod y3 (.prod y4 (.prod y3 y3)))
abbrev XX:Ty:=.sl 295 XD
abbrev XE:Ty:=.prod Xz y47
abbrev XY:Ty:=.sl 302 XE
abbrev U5:Ty:=.int .u32
abbrev U6:Ty:=.int .u64
abbrev y48:Ty:=.sl 137 Qh
abbrev y50:Ty:=.prod y47 y48
abbrev y65:Ty:=.prod y3 y3
abbrev y55:Ty:=.sl 65 y65
theorem ti3:TI Tryz.prog 3 false 1:=⟨⟨_,Tryz.underlying3,rfl⟩,by kernel_rfl⟩
theorem U7 (a0:Int) (a1:Int) (a2:Int) (a3:Int) (b0:Int) (b1:Int) (b2:Int) (b3:Int) (w:World):EqT Tryz.prog 156 (.agg #[.int .i64 a0,.int .i64 a1,.int .i64 a2,.int .i64 a3]) (.agg #[.int .i64 b0,.int .i64 b1,.int .i64 b2,.int .i64 b3]) ((a0==b0)&&((a1==b1)&&((a2==b2)&&((a3==b3)&&true)))) w:=PB w Tryz.underlying156 (by kernel_rfl) (by kernel_rfl) (qz rfl (pn ti3 rfl) (pn ti3 rfl) (run_equalIn_int w 9998 3 _ _ _ _ Tryz.underlying3) (qz rfl (pn ti3 rfl) (pn ti3 rfl) (run_equalIn_int w 9998 3 _ _ _ _ Tryz.underlying3) (qz rfl (pn ti3 rfl) (pn ti3 rfl) (run_equalIn_int w 9998 3 _ _ _ _ Tryz.underlying3) (qz rfl (pn ti3 rfl) (pn ti3 rfl) (run_equalIn_int w 9998 3 _ _ _ _ Tryz.underlying3) (IW w)))))
theorem WS (a0:Int) (a1:Int) (b0:Int) (b1:Int) (w:World):EqT Tryz.prog 65 (.agg #[.int .i64 a0,.int .i64 a1]) (.agg #[.int .i64 b0,.int .i64 b1]) ((a0==b0)&&((a1==b1)&&true)) w:=PB w Tryz.underlying65 (by kernel_rfl) (by kernel_rfl) (qz rfl (pn ti3 rfl) (pn ti3 rfl) (run_equalIn_int w 9998 3 _ _ _ _ Tryz.underlying3) (qz rfl (pn ti3 rfl) (pn ti3 rfl) (run_equalIn_int w 9998 3 _ _ _ _ Tryz.underlying3) (IW w)))
theorem laidOut:laidOutB Tryz.prog=true:=by kernel_rfl
theorem U8:KII Tryz.prog 231:=⟨_,_,Tryz.underlying231,by decide,rfl,rfl,Tryz.underlying3,Tryz.underlying3,by kernel_rfl,by kernel_rfl,by kernel_rfl,by kernel_rfl,Tryz.prog.types.size - 1,by kernel_rfl⟩
theorem mz3 (w:World):(zeroValue 3).run Tryz.prog w= .ok (.int .i64 0) w:=by kernel_rfl
theorem mz4 (w:World):(zeroValue 4).run Tryz.prog w= .ok (.bool false) w:=by kernel_rfl
theorem WU:KeyOk Tryz.prog 231 (fun x:Int×Int=>Value.agg #[.int .i64 x.1,.int .i64 x.2]) Rh V4:=Wr U8 (Go.deep_law_laid laidOut (m:=2) (by omega) (of_decide_eq_true (by kernel_rfl)) (by kernel_rfl) (by rw[Tryz.underlying231]))
theorem kk3:KeyOk Tryz.prog 3 (fun n:Int=>Value.int .i64 n) Rf iOk:=Ui Tryz.underlying3
theorem ek3:EltOk Tryz.prog 3 (fun n:Int=>Value.int .i64 n) Rf iOk 0:=Uj Tryz.underlying3 mz3
theorem ek4:EltOk Tryz.prog 4 (fun n:Bool=>Value.bool n) V3 bOk false:=Rg Tryz.underlying4 mz4
def tt:TT:=[(3,⟨false,1,none,y3,[],some 8,none,false,none,none,some (some .i64),false,none⟩),
 (4,⟨false,1,none,y4,[],some 1,none,true,none,none,none,false,none⟩),
 (5,⟨false,1,none,y5,[],some 1,none,false,none,none,some (some .u8),false,none⟩),
 (9,⟨false,1,none,y9,[],some 16,none,false,none,none,some none,false,none⟩),
 (22,⟨false,1,some 5,y22,[],some 24,none,false,none,none,none,false,none⟩),
 (24,⟨false,1,some 41,y24,[],some 24,none,false,none,none,none,false,none⟩),
 (25,⟨false,1,some 95,y25,[],some 24,none,false,none,none,none,false,none⟩),
 (27,⟨true,2,none,y27,[(0,0),(1,0)],some 48,some [(0,1),(1,1)],false,none,none,none,false,none⟩),
 (28,⟨false,1,some 156,y28,[],some 24,none,false,none,none,none,false,none⟩),
 (30,⟨true,1,none,y30,[(0,0)],some 24,some [(0,1)],false,none,none,none,false,none⟩),
 (38,⟨false,1,some 4,y38,[],some 24,none,false,none,none,none,false,none⟩),
 (39,⟨false,1,some 47,y39,[],some 24,none,false,none,none,none,false,none⟩),
 (41,⟨true,3,none,y41,[(0,0),(1,0),(2,0)],some 56,some [(0,1),(1,1),(2,1)],false,none,none,none,false,none⟩),
 (45,⟨false,1,none,.bool,[],none,none,false,none,none,none,true,none⟩),
 (47,⟨false,1,some 3,y47,[],some 24,none,false,none,none,none,false,none⟩),
 (48,⟨false,1,some 137,y48,[],some 24,none,false,none,none,none,false,none⟩),
 (50,⟨true,2,none,y50,[(0,0),(1,0)],some 48,some [(0,1),(1,1)],false,none,none,none,false,none⟩),
 (54,⟨false,1,none,.bool,[],none,none,false,none,none,none,true,none⟩),
 (55,⟨false,1,some 65,y55,[],some 24,none,false,none,none,none,false,none⟩),
 (65,⟨true,2,none,y65,[(0,0),(1,0)],some 16,some [(0,1),(1,1)],false,some [some .i64,some .i64],none,none,false,none⟩),
 (95,⟨true,3,none,y95,[(0,0),(1,0),(2,0)],some 40,some [(0,1),(1,1),(2,1)],false,none,none,none,false,none⟩),
 (101,⟨false,1,none,.bool,[],none,none,false,none,none,none,true,none⟩),
 (105,⟨true,5,none,Gp,[(0,0),(1,0),(2,0),(3,0),(4,0)],some 72,some [(0,1),(1,1),(2,1),(3,1),(4,1)],false,none,none,none,false,none⟩),
 (111,⟨false,1,none,.bool,[],none,none,false,none,none,none,true,none⟩),
 (116,⟨false,1,none,WO,[],some 8,none,false,none,none,none,false,some 187⟩),
 (125,⟨false,1,none,.bool,[],none,none,false,none,none,none,true,none⟩),
 (128,⟨false,1,some 206,XT,[],some 24,none,false,none,none,none,false,none⟩),
 (134,⟨false,1,some 9,WQ,[],some 24,none,false,none,none,none,false,none⟩),
 (137,⟨true,4,none,Qh,[(0,0),(1,0),(2,0),(3,0)],some 32,some [(0,1),(1,1),(2,1),(3,1)],false,none,none,none,false,none⟩),
 (153,⟨true,3,none,XU,[(0,0),(1,0),(2,0)],some 40,some [(0,1),(1,1),(2,1)],false,none,none,none,false,none⟩),
 (156,⟨true,4,none,ud,[(0,0),(1,0),(2,0),(3,0)],some 32,some [(0,1),(1,1),(2,1),(3,1)],false,some [some .i64,some .i64,some .i64,some .i64],none,none,false,none⟩),
 (159,⟨false,1,none,.bool,[],none,none,false,none,none,none,true,none⟩),
 (169,⟨true,3,none,Xx,[(0,0),(1,0),(2,0)],some 24,some [(0,1),(1,1),(2,1)],false,none,none,none,false,none⟩),
 (183,⟨false,1,some 116,Wn,[],some 24,none,false,none,none,none,false,none⟩),
 (187,⟨true,5,none,XV,[(0,3),(4,0)],some 56,some [(0,4),(4,1)],false,none,none,none,false,none⟩),
 (194,⟨true,3,none,Xy,[(0,0),(1,0),(2,0)],some 24,some [(0,1),(1,1),(2,1)],false,none,none,none,false,none⟩),
 (197,⟨false,1,none,.bool,[],none,none,false,none,none,none,true,none⟩),
 (199,⟨false,1,none,.bool,[],none,none,false,none,none,none,true,none⟩),
 (206,⟨true,2,none,Wm,[(0,0),(1,0)],some 16,some [(0,1),(1,1)],false,none,none,none,false,none⟩),
 (226,⟨false,1,none,U4,[],some 8,none,false,none,none,some (some .u64),false,none⟩),
 (231,⟨true,2,none,Xz,[(0,0),(1,0)],some 16,some [(0,1),(1,1)],false,none,none,none,false,none⟩),
 (232,⟨false,1,none,.bool,[],none,none,false,none,none,none,true,none⟩),
 (234,⟨false,1,none,.bool,[],none,none,false,none,none,none,true,none⟩),
 (236,⟨false,1,some 238,XB,[],some 24,none,false,none,none,none,false,none⟩),
 (238,⟨false,1,some 240,WR,[],some 24,none,false,none,none,none,false,none⟩),
 (240,⟨true,4,none,XA,[(0,1),(2,0),(3,0)],some 32,some [(0,2),(2,1),(3,1)],false,none,none,none,false,none⟩),
 (247,⟨false,1,none,.bool,[],none,none,false,none,some ⟨3,3,.int,.int⟩,none,false,none⟩),
 (250,⟨false,1,none,.bool,[],none,none,false,none,none,none,true,none⟩),
 (272,⟨false,1,some 275,XW,[],some 24,none,false,none,none,none,false,none⟩),
 (275,⟨true,4,none,XC,[(0,1),(2,0),(3,0)],some 32,some [(0,2),(2,1),(3,1)],false,none,none,none,false,none⟩),
 (295,⟨true,5,none,XD,[(0,0),(1,0),(2,0),(3,0),(4,0)],some 40,some [(0,1),(1,1),(2,1),(3,1),(4,1)],false,none,none,none,false,none⟩),
 (296,⟨false,1,some 295,XX,[],some 24,none,false,none,none,none,false,none⟩),
 (300,⟨false,1,none,.bool,[],none,none,false,none,some ⟨231,4,.ii,.bool⟩,none,false,none⟩),
 (302,⟨true,3,none,XE,[(0,1),(2,0)],some 40,some [(0,2),(2,1)],false,none,none,none,false,none⟩),
 (303,⟨false,1,some 302,XY,[],some 24,none,false,none,none,none,false,none⟩),
 (333,⟨false,1,none,.bool,[],none,none,false,none,none,none,true,none⟩),
 (345,⟨false,1,none,U5,[],some 4,none,false,none,none,some (some .u32),false,none⟩),
 (347,⟨false,1,none,U6,[],some 8,none,false,none,none,some (some .u64),false,none⟩)]
theorem KZ:TTok Tryz.prog tt:=⟨rW (n:=1) (z:=.int .i64 0) ⟨⟨_,Tryz.underlying3,rfl⟩,by kernel_rfl⟩ rfl (by unfold TZ;kernel_rfl) rfl (bp rfl) (fun h=>by cases h) (fun k h=>by obtain rfl:=ae h;exact Tryz.underlying3),
 rW (n:=1) (z:=.bool false) ⟨⟨_,Tryz.underlying4,rfl⟩,by kernel_rfl⟩ rfl (by unfold TZ;kernel_rfl) rfl (bp rfl) (fun h=>Tryz.underlying4) (fun k h=>by cases h),
 rW (n:=1) (z:=.int .u8 0) ⟨⟨_,Tryz.underlying5,rfl⟩,by kernel_rfl⟩ rfl (by unfold TZ;kernel_rfl) rfl (bp rfl) (fun h=>by cases h) (fun k h=>by obtain rfl:=ae h;exact Tryz.underlying5),
 rW (n:=1) (z:=.string ⟨#[]⟩) ⟨⟨_,Tryz.underlying9,rfl⟩,by kernel_rfl⟩ rfl (by unfold TZ;kernel_rfl) rfl (bp rfl) (fun h=>by cases h) (fun k h=>by obtain rfl:=ae h;exact Tryz.underlying9),
 pY ⟨⟨_,Tryz.underlying22,rfl⟩,by kernel_rfl⟩ Tryz.underlying22 (by unfold TZ;kernel_rfl),
 pY ⟨⟨_,Tryz.underlying24,rfl⟩,by kernel_rfl⟩ Tryz.underlying24 (by unfold TZ;kernel_rfl),
 pY ⟨⟨_,Tryz.underlying25,rfl⟩,by kernel_rfl⟩ Tryz.underlying25 (by unfold TZ;kernel_rfl),
 oQ (z:=.agg #[.slice none 0 0,.slice none 0 0]) ⟨⟨_,Tryz.underlying27,rfl⟩,by kernel_rfl⟩ rfl ⟨⟨_,_,Tryz.underlying27,rfl,rfl,by kernel_rfl⟩,⟨_,_,Tryz.underlying27,rfl,rfl,by kernel_rfl⟩,trivial⟩ (by unfold TZ;kernel_rfl) rfl (bp rfl) ⟨_,Tryz.underlying27,by kernel_rfl⟩ (fun ks h=>by cases h),
 pY ⟨⟨_,Tryz.underlying28,rfl⟩,by kernel_rfl⟩ Tryz.underlying28 (by unfold TZ;kernel_rfl),
 oQ (z:=.agg #[.slice none 0 0]) ⟨⟨_,Tryz.underlying30,rfl⟩,by kernel_rfl⟩ rfl ⟨⟨_,_,Tryz.underlying30,rfl,rfl,by kernel_rfl⟩,trivial⟩ (by unfold TZ;kernel_rfl) rfl (bp rfl) ⟨_,Tryz.underlying30,by kernel_rfl⟩ (fun ks h=>by cases h),
 pY ⟨⟨_,Tryz.underlying38,rfl⟩,by kernel_rfl⟩ Tryz.underlying38 (by unfold TZ;kernel_rfl),
 pY ⟨⟨_,Tryz.underlying39,rfl⟩,by kernel_rfl⟩ Tryz.underlying39 (by unfold TZ;kernel_rfl),
 oQ (z:=.agg #[.int .i64 0,.slice none 0 0,.slice none 0 0]) ⟨⟨_,Tryz.underlying41,rfl⟩,by kernel_rfl⟩ rfl ⟨⟨_,_,Tryz.underlying41,rfl,rfl,by kernel_rfl⟩,⟨_,_,Tryz.underlying41,rfl,rfl,by kernel_rfl⟩,⟨_,_,Tryz.underlying41,rfl,rfl,by kernel_rfl⟩,trivial⟩ (by unfold TZ;kernel_rfl) rfl (bp rfl) ⟨_,Tryz.underlying41,by kernel_rfl⟩ (fun ks h=>by cases h),
 vD (ty:=.bool) (b:=8) ⟨⟨_,Tryz.underlying45,rfl⟩,by kernel_rfl⟩ rfl (by unfold TZ;kernel_rfl),
 pY ⟨⟨_,Tryz.underlying47,rfl⟩,by kernel_rfl⟩ Tryz.underlying47 (by unfold TZ;kernel_rfl),
 pY ⟨⟨_,Tryz.underlying48,rfl⟩,by kernel_rfl⟩ Tryz.underlying48 (by unfold TZ;kernel_rfl),
 oQ (z:=.agg #[.slice none 0 0,.slice none 0 0]) ⟨⟨_,Tryz.underlying50,rfl⟩,by kernel_rfl⟩ rfl ⟨⟨_,_,Tryz.underlying50,rfl,rfl,by kernel_rfl⟩,⟨_,_,Tryz.underlying50,rfl,rfl,by kernel_rfl⟩,trivial⟩ (by unfold TZ;kernel_rfl) rfl (bp rfl) ⟨_,Tryz.underlying50,by kernel_rfl⟩ (fun ks h=>by cases h),
 vD (ty:=.bool) (b:=8) ⟨⟨_,Tryz.underlying54,rfl⟩,by kernel_rfl⟩ rfl (by unfold TZ;kernel_rfl),
 pY ⟨⟨_,Tryz.underlying55,rfl⟩,by kernel_rfl⟩ Tryz.underlying55 (by unfold TZ;kernel_rfl),
 oQ (z:=.agg #[.int .i64 0,.int .i64 0]) ⟨⟨_,Tryz.underlying65,rfl⟩,by kernel_rfl⟩ rfl ⟨⟨_,_,Tryz.underlying65,rfl,rfl,by kernel_rfl⟩,⟨_,_,Tryz.underlying65,rfl,rfl,by kernel_rfl⟩,trivial⟩ (by unfold TZ;kernel_rfl) rfl (bp rfl) ⟨_,Tryz.underlying65,by kernel_rfl⟩ (fun ks h=>by obtain rfl:=ae h;exact fun w a0 b0 a1 b1=>WS a0 a1 b0 b1 w),
 oQ (z:=.agg #[.int .i64 0,.slice none 0 0,.int .i64 0]) ⟨⟨_,Tryz.underlying95,rfl⟩,by kernel_rfl⟩ rfl ⟨⟨_,_,Tryz.underlying95,rfl,rfl,by kernel_rfl⟩,⟨_,_,Tryz.underlying95,rfl,rfl,by kernel_rfl⟩,⟨_,_,Tryz.underlying95,rfl,rfl,by kernel_rfl⟩,trivial⟩ (by unfold TZ;kernel_rfl) rfl (bp rfl) ⟨_,Tryz.underlying95,by kernel_rfl⟩ (fun ks h=>by cases h),
 vD (ty:=.bool) (b:=8) ⟨⟨_,Tryz.underlying101,rfl⟩,by kernel_rfl⟩ rfl (by unfold TZ;kernel_rfl),
 oQ (z:=.agg #[.slice none 0 0,.int .i64 0,.int .i64 0,.slice none 0 0,.bool false]) ⟨⟨_,Tryz.underlying105,rfl⟩,by kernel_rfl⟩ rfl ⟨⟨_,_,Tryz.underlying105,rfl,rfl,by kernel_rfl⟩,⟨_,_,Tryz.underlying105,rfl,rfl,by kernel_rfl⟩,⟨_,_,Tryz.underlying105,rfl,rfl,by kernel_rfl⟩,⟨_,_,Tryz.underlying105,rfl,rfl,by kernel_rfl⟩,⟨_,_,Tryz.underlying105,rfl,rfl,by kernel_rfl⟩,trivial⟩ (by unfold TZ;kernel_rfl) rfl (bp rfl) ⟨_,Tryz.underlying105,by kernel_rfl⟩ (fun ks h=>by cases h),
 vD (ty:=.bool) (b:=8) ⟨⟨_,Tryz.underlying111,rfl⟩,by kernel_rfl⟩ rfl (by unfold TZ;kernel_rfl),
 WN (e:=187) (E:=116) (u:=ud) ⟨⟨_,Tryz.underlying116,rfl⟩,by kernel_rfl⟩ Tryz.underlying116 (by unfold TZ;kernel_rfl),
 vD (ty:=.bool) (b:=8) ⟨⟨_,Tryz.underlying125,rfl⟩,by kernel_rfl⟩ rfl (by unfold TZ;kernel_rfl),
 pY ⟨⟨_,Tryz.underlying128,rfl⟩,by kernel_rfl⟩ Tryz.underlying128 (by unfold TZ;kernel_rfl),
 pY ⟨⟨_,Tryz.underlying134,rfl⟩,by kernel_rfl⟩ Tryz.underlying134 (by unfold TZ;kernel_rfl),
 oQ (z:=.agg #[.int .i64 0,.int .i64 0,.int .i64 0,.int .i64 0]) ⟨⟨_,Tryz.underlying137,rfl⟩,by kernel_rfl⟩ rfl ⟨⟨_,_,Tryz.underlying137,rfl,rfl,by kernel_rfl⟩,⟨_,_,Tryz.underlying137,rfl,rfl,by kernel_rfl⟩,⟨_,_,Tryz.underlying137,rfl,rfl,by kernel_rfl⟩,⟨_,_,Tryz.underlying137,rfl,rfl,by kernel_rfl⟩,trivial⟩ (by unfold TZ;kernel_rfl) rfl (bp rfl) ⟨_,Tryz.underlying137,by kernel_rfl⟩ (fun ks h=>by cases h),
 oQ (z:=.agg #[.slice none 0 0,.int .i64 0,.int .i64 0]) ⟨⟨_,Tryz.underlying153,rfl⟩,by kernel_rfl⟩ rfl ⟨⟨_,_,Tryz.underlying153,rfl,rfl,by kernel_rfl⟩,⟨_,_,Tryz.underlying153,rfl,rfl,by kernel_rfl⟩,⟨_,_,Tryz.underlying153,rfl,rfl,by kernel_rfl⟩,trivial⟩ (by unfold TZ;kernel_rfl) rfl (bp rfl) ⟨_,Tryz.underlying153,by kernel_rfl⟩ (fun ks h=>by cases h),
 oQ (z:=.agg #[.int .i64 0,.int .i64 0,.int .i64 0,.int .i64 0]) ⟨⟨_,Tryz.underlying156,rfl⟩,by kernel_rfl⟩ rfl ⟨⟨_,_,Tryz.underlying156,rfl,rfl,by kernel_rfl⟩,⟨_,_,Tryz.underlying156,rfl,rfl,by kernel_rfl⟩,⟨_,_,Tryz.underlying156,rfl,rfl,by kernel_rfl⟩,⟨_,_,Tryz.underlying156,rfl,rfl,by kernel_rfl⟩,trivial⟩ (by unfold TZ;kernel_rfl) rfl (bp rfl) ⟨_,Tryz.underlying156,by kernel_rfl⟩ (fun ks h=>by obtain rfl:=ae h;exact fun w a0 b0 a1 b1 a2 b2 a3 b3=>U7 a0 a1 a2 a3 b0 b1 b2 b3 w),
 vD (ty:=.bool) (b:=8) ⟨⟨_,Tryz.underlying159,rfl⟩,by kernel_rfl⟩ rfl (by unfold TZ;kernel_rfl),
 oQ (z:=.agg #[.bool false,.int .i64 0,.int .i64 0]) ⟨⟨_,Tryz.underlying169,rfl⟩,by kernel_rfl⟩ rfl ⟨⟨_,_,Tryz.underlying169,rfl,rfl,by kernel_rfl⟩,⟨_,_,Tryz.underlying169,rfl,rfl,by kernel_rfl⟩,⟨_,_,Tryz.underlying169,rfl,rfl,by kernel_rfl⟩,trivial⟩ (by unfold TZ;kernel_rfl) rfl (bp rfl) ⟨_,Tryz.underlying169,by kernel_rfl⟩ (fun ks h=>by cases h),
 pY ⟨⟨_,Tryz.underlying183,rfl⟩,by kernel_rfl⟩ Tryz.underlying183 (by unfold TZ;kernel_rfl),
 oQ (z:=.agg #[.int .i64 0,.int .i64 0,.int .i64 0,.int .i64 0,.slice none 0 0]) ⟨⟨_,Tryz.underlying187,rfl⟩,by kernel_rfl⟩ rfl ⟨⟨_,_,Tryz.underlying187,rfl,rfl,by kernel_rfl⟩,⟨_,_,Tryz.underlying187,rfl,rfl,by kernel_rfl⟩,trivial⟩ (by unfold TZ;kernel_rfl) rfl (bp rfl) ⟨_,Tryz.underlying187,by kernel_rfl⟩ (fun ks h=>by cases h),
 oQ (z:=.agg #[.int .i64 0,.int .i64 0,.bool false]) ⟨⟨_,Tryz.underlying194,rfl⟩,by kernel_rfl⟩ rfl ⟨⟨_,_,Tryz.underlying194,rfl,rfl,by kernel_rfl⟩,⟨_,_,Tryz.underlying194,rfl,rfl,by kernel_rfl⟩,⟨_,_,Tryz.underlying194,rfl,rfl,by kernel_rfl⟩,trivial⟩ (by unfold TZ;kernel_rfl) rfl (bp rfl) ⟨_,Tryz.underlying194,by kernel_rfl⟩ (fun ks h=>by cases h),
 vD (ty:=.bool) (b:=8) ⟨⟨_,Tryz.underlying197,rfl⟩,by kernel_rfl⟩ rfl (by unfold TZ;kernel_rfl),
 vD (ty:=.bool) (b:=8) ⟨⟨_,Tryz.underlying199,rfl⟩,by kernel_rfl⟩ rfl (by unfold TZ;kernel_rfl),
 oQ (z:=.agg #[.int .i64 0,.bool false]) ⟨⟨_,Tryz.underlying206,rfl⟩,by kernel_rfl⟩ rfl ⟨⟨_,_,Tryz.underlying206,rfl,rfl,by kernel_rfl⟩,⟨_,_,Tryz.underlying206,rfl,rfl,by kernel_rfl⟩,trivial⟩ (by unfold TZ;kernel_rfl) rfl (bp rfl) ⟨_,Tryz.underlying206,by kernel_rfl⟩ (fun ks h=>by cases h),
 rW (n:=1) (z:=.int .u64 0) ⟨⟨_,Tryz.underlying226,rfl⟩,by kernel_rfl⟩ rfl (by unfold TZ;kernel_rfl) rfl (bp rfl) (fun h=>by cases h) (fun k h=>by obtain rfl:=ae h;exact Tryz.underlying226),
 oQ (z:=.agg #[.int .i64 0,.int .i64 0]) ⟨⟨_,Tryz.underlying231,rfl⟩,by kernel_rfl⟩ rfl ⟨⟨_,_,Tryz.underlying231,rfl,rfl,by kernel_rfl⟩,⟨_,_,Tryz.underlying231,rfl,rfl,by kernel_rfl⟩,trivial⟩ (by unfold TZ;kernel_rfl) rfl (bp rfl) ⟨_,Tryz.underlying231,by kernel_rfl⟩ (fun ks h=>by cases h),
 vD (ty:=.bool) (b:=8) ⟨⟨_,Tryz.underlying232,rfl⟩,by kernel_rfl⟩ rfl (by unfold TZ;kernel_rfl),
 vD (ty:=.bool) (b:=8) ⟨⟨_,Tryz.underlying234,rfl⟩,by kernel_rfl⟩ rfl (by unfold TZ;kernel_rfl),
 pY ⟨⟨_,Tryz.underlying236,rfl⟩,by kernel_rfl⟩ Tryz.underlying236 (by unfold TZ;kernel_rfl),
 pY ⟨⟨_,Tryz.underlying238,rfl⟩,by kernel_rfl⟩ Tryz.underlying238 (by unfold TZ;kernel_rfl),
 oQ (z:=.agg #[.int .i64 0,.bool false,.int .i64 0,.int .i64 0]) ⟨⟨_,Tryz.underlying240,rfl⟩,by kernel_rfl⟩ rfl ⟨⟨_,_,Tryz.underlying240,rfl,rfl,by kernel_rfl⟩,⟨_,_,Tryz.underlying240,rfl,rfl,by kernel_rfl⟩,⟨_,_,Tryz.underlying240,rfl,rfl,by kernel_rfl⟩,trivial⟩ (by unfold TZ;kernel_rfl) rfl (bp rfl) ⟨_,Tryz.underlying240,by kernel_rfl⟩ (fun ks h=>by cases h),
 U3 (m:=⟨3,3,.int,.int⟩) (ty:=.bool) ⟨⟨_,Tryz.underlying247,rfl⟩,by kernel_rfl⟩ rfl ⟨Tryz.underlying247,kk3,ek3⟩,
 vD (ty:=.bool) (b:=8) ⟨⟨_,Tryz.underlying250,rfl⟩,by kernel_rfl⟩ rfl (by unfold TZ;kernel_rfl),
 pY ⟨⟨_,Tryz.underlying272,rfl⟩,by kernel_rfl⟩ Tryz.underlying272 (by unfold TZ;kernel_rfl),
 oQ (z:=.agg #[.int .i64 0,.bool false,.int .i64 0,.int .i64 0]) ⟨⟨_,Tryz.underlying275,rfl⟩,by kernel_rfl⟩ rfl ⟨⟨_,_,Tryz.underlying275,rfl,rfl,by kernel_rfl⟩,⟨_,_,Tryz.underlying275,rfl,rfl,by kernel_rfl⟩,⟨_,_,Tryz.underlying275,rfl,rfl,by kernel_rfl⟩,trivial⟩ (by unfold TZ;kernel_rfl) rfl (bp rfl) ⟨_,Tryz.underlying275,by kernel_rfl⟩ (fun ks h=>by cases h),
 oQ (z:=.agg #[.int .i64 0,.int .i64 0,.bool false,.int .i64 0,.int .i64 0]) ⟨⟨_,Tryz.underlying295,rfl⟩,by kernel_rfl⟩ rfl ⟨⟨_,_,Tryz.underlying295,rfl,rfl,by kernel_rfl⟩,⟨_,_,Tryz.underlying295,rfl,rfl,by kernel_rfl⟩,⟨_,_,Tryz.underlying295,rfl,rfl,by kernel_rfl⟩,⟨_,_,Tryz.underlying295,rfl,rfl,by kernel_rfl⟩,⟨_,_,Tryz.underlying295,rfl,rfl,by kernel_rfl⟩,trivial⟩ (by unfold TZ;kernel_rfl) rfl (bp rfl) ⟨_,Tryz.underlying295,by kernel_rfl⟩ (fun ks h=>by cases h),
 pY ⟨⟨_,Tryz.underlying296,rfl⟩,by kernel_rfl⟩ Tryz.underlying296 (by unfold TZ;kernel_rfl),
 U3 (m:=⟨231,4,.ii,.bool⟩) (ty:=.bool) ⟨⟨_,Tryz.underlying300,rfl⟩,by kernel_rfl⟩ rfl ⟨Tryz.underlying300,WU,ek4⟩,
 oQ (z:=.agg #[.int .i64 0,.int .i64 0,.slice none 0 0]) ⟨⟨_,Tryz.underlying302,rfl⟩,by kernel_rfl⟩ rfl ⟨⟨_,_,Tryz.underlying302,rfl,rfl,by kernel_rfl⟩,⟨_,_,Tryz.underlying302,rfl,rfl,by kernel_rfl⟩,trivial⟩ (by unfold TZ;kernel_rfl) rfl (bp rfl) ⟨_,Tryz.underlying302,by kernel_rfl⟩ (fun ks h=>by cases h),
 pY ⟨⟨_,Tryz.underlying303,rfl⟩,by kernel_rfl⟩ Tryz.underlying303 (by unfold TZ;kernel_rfl),
 vD (ty:=.bool) (b:=8) ⟨⟨_,Tryz.underlying333,rfl⟩,by kernel_rfl⟩ rfl (by unfold TZ;kernel_rfl),
 rW (n:=1) (z:=.int .u32 0) ⟨⟨_,Tryz.underlying345,rfl⟩,by kernel_rfl⟩ rfl (by unfold TZ;kernel_rfl) rfl (bp rfl) (fun h=>by cases h) (fun k h=>by obtain rfl:=ae h;exact Tryz.underlying345),
 rW (n:=1) (z:=.int .u64 0) ⟨⟨_,Tryz.underlying347,rfl⟩,by kernel_rfl⟩ rfl (by unfold TZ;kernel_rfl) rfl (bp rfl) (fun h=>by cases h) (fun k h=>by obtain rfl:=ae h;exact Tryz.underlying347),trivial⟩
theorem mixed:Tryz.prog.follows .mixedOrders=true:=by kernel_rfl
def Qi (fn:Func):Code:=match fn.body with
 | some c=>c
 | none=>.skip
theorem fk {k:FuncId} {fn:Func} {f:FS} (ft:FT) (hF:FTok Tryz.prog ft) (hf:Tryz.prog.funcs[k]? =some fn) (ann:Ann) (an:List (Nat×Ty):=[]) (tr:Trs:=[]) (hb:fn.body=some (Qi fn):=by rfl) (he:(fn.name == "runtime.NumGoroutine")=false:=by kernel_rfl) (hcl:f.cl=none:=by rfl) (hm:Nat.ble f.ps.length fn.ntmps=true:=by rfl) (hdp:(AE f.rs&&vA f.ps)=true:=by rfl)
  (hmod: ∀d,appP f.ps f.m d=iR ⟨tt,ft,an,fn.ntmps,tr⟩ (HS ⟨tt,ft,an,fn.ntmps,tr⟩ fn.results.toList f.rs f.ps d) (Qi fn) ann (fun r=>some r) (fun _ _=>none) (HS ⟨tt,ft,an,fn.ntmps,tr⟩ fn.results.toList f.rs f.ps d) (oM (vn f.ps d)):=by intro d;kernel_rfl):FOk Tryz.prog k f:=
 fok (V:=⟨tt,ft,an,fn.ntmps,tr⟩) KZ hF mixed hf hb rfl (enters_of hf he hb) hcl (bp hm) hdp ann hmod
def K0:FS:=⟨[.rd y22],[y4],Et,none⟩
def CM:FS:=⟨[.rd y22],[.int .i64,.int .i64],tj,some (153,9)⟩
def zw:FS:=⟨[.crs 153 5],[y3],ju,none⟩
def fU:FS:=⟨[.crs 153 5,.rd y3],[y3],bd,none⟩
def lM:FS:=⟨[.crs 153 5,.rd y47],[y3],c7,none⟩
def lN:FS:=⟨[.rd y3,.rd y3,.rd y3],[y4],cq,none⟩
def qa:FS:=⟨[.rd y3],[y4],kM,none⟩
def rZ:FS:=⟨[.rd ud],[y3],mi,none⟩
def zy:FS:=⟨[.rd y30],[y4],qL,none⟩
def jO:FS:=⟨[.rd y30],[y4],fu,none⟩
def mw:FS:=⟨[.rd y28],[y3],eS,none⟩
def o8 (n:Nat):FS:=⟨[.rd y28],[y3],dN n,none⟩
def zz:FS:=⟨[.rd y28],[y30],uC,none⟩
def qS:FS:=⟨[.rd y30,.rd y30,.rd ud],[y30],dK,none⟩
def uE:FS:=⟨[.rd y3],[y30],lV,none⟩
def mX (n:Nat):FS:=⟨[.rd y30,.rd y3,.rd y3],[y30],jv n,none⟩
def lO (n:Nat):FS:=⟨[.rd y28],[y30],ct n,none⟩
def rr:FS:=⟨[.rd y30],[y30,y4],kA,none⟩
def xr:FS:=⟨[.ptr 105 Gp,.rd y3,.rd y3],[],mj,none⟩
def mY (n:Nat):FS:=⟨[.ptr 105 Gp,.rd y28],[Xx],bS n,none⟩
def mZ:FS:=⟨[.rd y30],[Gp,y4],du,none⟩
def vq:FS:=⟨[.rd Gp,.rd y3,.rd y3],[y3],mT,none⟩
def sd:FS:=⟨[.rd y47,.rd y3],[y3],mn,none⟩
def ru:FS:=⟨[.rd Gp,.rd y3],[y4],kB,none⟩
def rv:FS:=⟨[.rd Gp,.rd y3],[y41,y4],gf,none⟩
def ry:FS:=⟨[],[y41],nH,none⟩
def tp:FS:=⟨[.rd y41,.rd y47,.rd y38],[y41],im,none⟩
def CN:FS:=⟨[.rd y47,.rd y47],[y3],nW,none⟩
def sf:FS:=⟨[.rd y41],[y38],j6,none⟩
def zA:FS:=⟨[.rd y41,.rd y47,.rd y3],[y47],nX,none⟩
def rz:FS:=⟨[.rd y41],[y47],iV,none⟩
def qb:FS:=⟨[.rd y41],[y41],fB,none⟩
def qc:FS:=⟨[.rd y30],[y41,y4],dO,none⟩
def CO:FS:=⟨[.rd y9,.rd y5],[WQ],CL,none⟩
def ln:FS:=⟨[.rd y3],[y9],lh,none⟩
def tq:FS:=⟨[.rd y3],[y9],oS,none⟩
def xt:FS:=⟨[.rd ud],[y9],xo,none⟩
def qd:FS:=⟨[.rd y9],[y3,y4],pZ,none⟩
def zB:FS:=⟨[.rd y9],[ud],zt,none⟩
def tu:FS:=⟨[.rd y9],[y30,y4],iq,none⟩
def zC:FS:=⟨[.crs 153 5,.rd WQ],[y9],qM,none⟩
def xu:FS:=⟨[.crs 153 5],[y30],oT,none⟩
def qT:FS:=⟨[.crs 153 5,.rd y3],[y4],lW,none⟩
def rA:FS:=⟨[.rd y3],[y30],rq,none⟩
def qU (n:Nat):FS:=⟨[.crs 153 5,.rd y3],[y30],dw n,none⟩
def zD:FS:=⟨[.crs 153 5],[y30],qN,none⟩
def xw:FS:=⟨[.crs 153 5],[y50],oU,none⟩
def CP:FS:=⟨[.crs 153 5],[y50],tl,none⟩
def gz:FS:=⟨[.rd y38,.rd y38],[y4],dE,none⟩
def b8:FS:=⟨[.rd y39,.rd y39,.fn [y47,y47] [y4]],[y4],bz,none⟩
def ez:FS:=⟨[.rd y47,.rd y47],[y4],cO,none⟩
def my:FS:=⟨[.rd y47,.rd y47],[y4],fP,none⟩
def od:FS:=⟨[.rd y41,.rd y41],[y4],ir,none⟩
def fG:FS:=⟨[.rd y3,.rd y3,.rd y3],[y4],bq,none⟩
def kR:FS:=⟨[.rd y3],[y4],fK,none⟩
def xx:FS:=⟨[.rd ud],[y4],oV,none⟩
def bu:FS:=⟨[.rd Wn],[Wn],fun _=>none,some (116,8)⟩
def oe:FS:=⟨[.rd y30],[t116],j8,none⟩
def zF:FS:=⟨[.rd y30],[y4],qO,none⟩
def mz:FS:=⟨[.rd y30],[y4],gN,none⟩
def kH (n:Nat):FS:=⟨[.rd t116],[y3],bI n,none⟩
def Gq:FS:=⟨[.rd y3],[t116],A1,none⟩
def na (n:Nat):FS:=⟨[.eat t116,.rd y3,.rd y3],[t116],jw n,none⟩
def jP (n:Nat):FS:=⟨[.rd t116],[t116],bg n,none⟩
def jf (n:Nat):FS:=⟨[.rd t116,.ptr 30 y30],[],bf n,none⟩
def tv:FS:=⟨[.rd t116],[y30],oX,none⟩
def rB:FS:=⟨[.rd y30],[y30,y4],kE,none⟩
def lD:FS:=⟨[.ptr 105 Gp,.rd y3,.rd y3],[],dA,none⟩
def fV (n:Nat):FS:=⟨[.ptr 105 Gp,.rd t116],[Xy],bh n,none⟩
def nc:FS:=⟨[.rd y30],[Gp,y4],gu,none⟩
def lp:FS:=⟨[.rd y3,.rd y3,.fn [y3] [y4],.fn [y3,y3] [y3,y4]],[y41,y4],eC,none⟩
def kS:FS:=⟨[.rd Gp,.rd y3],[y4],db,none⟩
def mA:FS:=⟨[.rd Gp,.rd y3,.rd y3],[y3],fQ,none⟩
def oh:FS:=⟨[.rd y3,.rd y3,.cap 105 Gp],[y3,y4],cT,none⟩
def qe:FS:=⟨[.rd Gp,.rd y3],[y41,y4],gO,none⟩
def bD:FS:=⟨[.rd y38],[y38],fun _=>none,some (4,1)⟩
def ng:FS:=⟨[.rd y41],[y38],eI,none⟩
def eu:FS:=⟨[.rd y39,.fn [y47] [y4]],[y3],bO,none⟩
def jX:FS:=⟨[.rd y47,.cap 47 y47],[y4],gp,none⟩
def lE:FS:=⟨[.rd y41,.rd y47],[y47,y3],dB,none⟩
def kT:FS:=⟨[.rd y41],[y47],dg,none⟩
def mB:FS:=⟨[.rd U5,.rd U5],[U5,U5],rX,none⟩
def mC:FS:=⟨[.rd U6,.rd U6],[U6,U6],mo,none⟩
def oi:FS:=⟨[.rd U4,.rd U4],[U4,U4],nZ,none⟩
def dW:FS:=⟨[.rd y47,.rd y3],[y47],bU,none⟩
def xy:FS:=⟨[],[y41],rY,none⟩
def eA:FS:=⟨[.rd y47,.rd y3],[y3],bL,none⟩
def jx:FS:=⟨[.rd y3,.cap 47 y47],[y3],aX,none⟩
def jy:FS:=⟨[.rd y3,.cap 41 y41,.capf 250 [y3] [y3]],[y4],cm,none⟩
def gA:FS:=⟨[.rd y41,.rd y3,.rd y3],[y3],bc,none⟩
def jz:FS:=⟨[.rd y3,.rd y3,.cap 41 y41,.capf 250 [y3] [y3],.cap 47 y47],[y3,y4],cn,none⟩
def jY:FS:=⟨[.rd y41],[y41],cd,none⟩
def CQ:FS:=⟨[.rd y41],[y41,y4],xp,none⟩
def qf:FS:=⟨[.rd y30],[y41,y4],gQ,none⟩
def vr:FS:=⟨[.rd y47],[y47],p7,none⟩
def lF:FS:=⟨[.rd y41],[y4],bF,none⟩
def zG:FS:=⟨[.rd Qh,.rd y3],[y4],n9,none⟩
def fZ:FS:=⟨[.rd y50],[y4],aQ,none⟩
def qV:FS:=⟨[.rd y50,.rd y41,.rd y47],[y4],bC,none⟩
def zH:FS:=⟨[.rd y39,.rd y47],[y47],lX,none⟩
def CR:FS:=⟨[.rd Qh,.rd y4],[y3],p8,none⟩
def A3:FS:=⟨[.rd y50],[XB],qP,none⟩
def o9:FS:=⟨[.rd y3],[y47],gR,none⟩
def si:FS:=⟨[.rd y41,.rd y3,.rd y3],[y3],dR,none⟩
def CS:FS:=⟨[.rd y41,.rd y3,.rd y3,.rd y3],[y3],p9,none⟩
def pw:FS:=⟨[.rd y50,.rd y41],[y39],eD,none⟩
def oj:FS:=⟨[.rd y50,.rd y41,.rd y3],[y47],fD,some (0,7)⟩
def tw:FS:=⟨[.rd y41,.rd y3,.rd y3],[y4],jI,none⟩
def iZ:FS:=⟨[.ow (.sl 3 y3)],[],eT,none⟩
def gB:FS:=⟨[.eat (.sl 3 y3)],[.sl 3 y3],cr,none⟩
def tx:FS:=⟨[.rd y47],[y47],jJ,none⟩
def mD:FS:=⟨[.rd y50,.rd y41,.rd y3],[y47],dV,none⟩
def rC:FS:=⟨[.rd y50,.rd y41],[y55],iX,none⟩
def zI:FS:=⟨[.rd y50,.rd Qh],[y4],zu,none⟩
def jg:FS:=⟨[.rd y50],[y4],a6,none⟩
def rD:FS:=⟨[.rd y55,.rd y55],[y4],gj,none⟩
def sj:FS:=⟨[.rd y65,.rd y65],[y4],kh,none⟩
def qW:FS:=⟨[.eat (.sl 65 y65),.rd y65],[y55],ix,none⟩
def CT:FS:=⟨[.crs 153 5],[y30],tn,none⟩
def lG:FS:=⟨[.rd y22],[y50,y30],ff,none⟩
def fg:FS:=⟨[.rd y3],[y55],cH,none⟩
def qg:FS:=⟨[.rd y3,.rd y3],[y3],jM,none⟩
def lq:FS:=⟨[.rd y65,.rd y65],[y3],fY,none⟩
def fH:FS:=⟨[.ow (.sl 65 y65),.fk 97],[],cX,none⟩
def fM:FS:=⟨[.eat (.sl 65 y65)],[.sl 65 y65],b7,none⟩
def pa:FS:=⟨[.rd y55],[y55],jo,none⟩
def xz:FS:=⟨[.rd y50,.rd y3,.rd y3],[y4],o6,none⟩
def nh:FS:=⟨[.rd y50,.rd y3],[y55],gx,none⟩
def fh:FS:=⟨[.rd y55,.rd y55],[y55],cJ,none⟩
def kI:FS:=⟨[.rd y55,.rd y55],[y55],gk,none⟩
def ni:FS:=⟨[.rd y55],[y4],dJ,none⟩
def mE:FS:=⟨[.rd y3,.rd y55],[y55],fS,none⟩
def om:FS:=⟨[.rd y3,.rd y55,.rd y3,.rd y3],[y55],iy,none⟩
def iD (n:Nat):FS:=⟨[.rd t116,.rd y50],[y55],be n,none⟩
def px:FS:=⟨[.rd y50,.rd y30],[y55,y4],eF,none⟩
def fj:FS:=⟨[.rd y3],[y55],cL,none⟩
def xA:FS:=⟨[.rd y50,.rd y3,.rd y3],[y4],o7,none⟩
def nj:FS:=⟨[.rd y50,.rd y3],[y55],gy,none⟩
def fl:FS:=⟨[.rd y55,.rd y55],[y55],cM,none⟩
def kJ:FS:=⟨[.rd y55,.rd y55],[y55],gl,none⟩
def qi:FS:=⟨[.rd y55],[y4],fL,none⟩
def mF:FS:=⟨[.rd y3,.rd y55],[y55],cY,none⟩
def oo:FS:=⟨[.rd y3,.rd y55,.rd y3,.rd y3],[y55],dL,none⟩
def pb (n:Nat):FS:=⟨[.rd y50,.rd y28],[y55],bP n,none⟩
def py:FS:=⟨[.rd y50,.rd y30],[y55,y4],dx,none⟩
def ga:FS:=⟨[.rd y47,.rd y3],[y4],dy,none⟩
def pc:FS:=⟨[.rd y50,.rd y41,.rd y3,.rd y3],[y4],fT,none⟩
def K4:FS:=⟨[.rd y47,.rd y3],[y4],A2,none⟩
def tz:FS:=⟨[.rd y50,.rd y41,.rd y3],[y47],jN,none⟩
def uF:FS:=⟨[.rd y22],[y4],iC,none⟩
end R
namespace R
open Go.RowKit
open D
theorem SG:FOk Tryz.prog 8 K0:=fk [] trivial Tryz.func8 .no
theorem K5:FOk Tryz.prog 50 CM:=SD (T:=153) (U2 (V:=⟨tt,[],[],32,[]⟩) KZ trivial mixed Tryz.func50 rfl rfl (enters_of Tryz.func50 (by kernel_rfl) rfl) (bp rfl) (.two .no (.two .no (.two (.two .no (.loop [.slot 3 (.num .i64),.slot 4 (.num .i64)] .no)) .no))) (fun xs=>by kernel_rfl)) rfl
theorem HW:FOk Tryz.prog 183 zw:=fk [] trivial Tryz.func183 (.two .no (.two .no (.two .no (.two (.two .no (.at [.slot 3 (.num .i64),.cur 0] .no)) .no))))
theorem gZ:FOk Tryz.prog 102 fU:=fk [(183,zw)] ⟨HW,trivial⟩ Tryz.func102 .no
theorem pd:FOk Tryz.prog 52 lM:=fk [(102,fU)] ⟨gZ,trivial⟩ Tryz.func52 .no
theorem nk:FOk Tryz.prog 110 lN:=fk [] trivial Tryz.func110 .no
theorem vt:FOk Tryz.prog 295 qa:=fk [(110,lN)] ⟨nk,trivial⟩ Tryz.func295 .no
theorem xB:FOk Tryz.prog 232 rZ:=fk [(110,lN),(295,qa)] ⟨nk,vt,trivial⟩ Tryz.func232 (.two .no (.two (.two .no (.join [.slot 5 .boo] .no (.two .no (.two .no (.two .no (.join [.slot 37 .boo] .no .no)))))) .no))
theorem HY:FOk Tryz.prog 160 zy:=fk [(232,rZ)] ⟨xB,trivial⟩ Tryz.func160 (.two .no (.two .no (.two (.two .no (.loop [.slot 3 (.num .i64),.slot 4 (.num .i64)] .no)) .no)))
theorem mG:FOk Tryz.prog 84 jO:=fk [(160,zy)] ⟨HY,trivial⟩ Tryz.func84 .no
theorem pe:FOk Tryz.prog 163 mw:=fk [(232,rZ)] ⟨xB,trivial⟩ Tryz.func163 (.two .no (.two .no (.two .no (.two (.loop [.slot 3 (.num .i64),.slot 4 (.num .i64)] .no) .no))))
theorem xC: ∀n,FOk Tryz.prog 215 (o8 n)
 | 0=>gr (f:=o8 0) (enters_of Tryz.func215 (by kernel_rfl) rfl) rfl (fun d=>rfl)
 | n+1=>by
  have ih:=xC n
  exact fk [(163,mw),(215,(o8 n))] ⟨pe,ih,trivial⟩ Tryz.func215 (.two .no (.two .no (.two .no (.two (.two .no (.two (.two .no (.at [.slot 15 .boo] .no)) .no)) .no))))
theorem HZ:FOk Tryz.prog 129 zz:=fk [] trivial Tryz.func129 .no
theorem uG:FOk Tryz.prog 254 qS:=fk [(129,zz)] ⟨HZ,trivial⟩ Tryz.func254 .no
theorem zJ:FOk Tryz.prog 252 uE:=fk [] trivial Tryz.func252 .no
theorem vu: ∀n,FOk Tryz.prog 287 (mX n)
 | 0=>gr (f:=mX 0) (enters_of Tryz.func287 (by kernel_rfl) rfl) rfl (fun d=>rfl)
 | n+1=>by
  have ih:=vu n
  exact fk [(252,uE),(254,qS),(287,(mX n))] ⟨zJ,uG,ih,trivial⟩ Tryz.func287 .no
theorem tC: ∀n,FOk Tryz.prog 216 (lO n)
 | 0=>gr (f:=lO 0) (enters_of Tryz.func216 (by kernel_rfl) rfl) rfl (fun d=>rfl)
 | n+1=>by
  have ih:=tC n
  exact fk [(163,mw),(216,(lO n)),(254,qS),(287,(mX dn))] ⟨pe,ih,uG,(vu dn),trivial⟩ Tryz.func216 (.two .no (.two .no (.two .no (.two (.two .no (.two (.two .no (.at [.slot 15 .boo] .no)) .no)) .no))))
end R
namespace R
open Go.RowKit
open D
theorem yK:FOk Tryz.prog 134 rr:=fk [(84,jO),(215,(o8 dn)),(216,(lO dn))] ⟨mG,(xC dn),(tC dn),trivial⟩ Tryz.func134 .no
theorem Eu:FOk Tryz.prog 217 xr:=fk [] trivial Tryz.func217 (.two .no (.loop [.slot 6 (.num .i64),.par 4 [3] 3 y3] (.two .no (.two (.at [.par 4 [3] 3 y3] .no) .no))))
theorem vv: ∀n,FOk Tryz.prog 135 (mY n)
 | 0=>gr (f:=mY 0) (enters_of Tryz.func135 (by kernel_rfl) rfl) rfl (fun d=>rfl)
 | n+1=>by
  have ih:=vv n
  exact fk [(135,(mY n)),(163,mw),(217,xr)] ⟨ih,pe,Eu,trivial⟩ Tryz.func135 (.two .no (.two .no (.two .no (.two (.two .no (.two .no (.two .no (.two .no (.two .no (.two .no (.two (.two .no (.two .no (.two .no (.two .no (.two .no (.two (.two .no (.at [.box 11 [.boo,(.num .i64),(.num .i64)]] .no)) (.two (.two .no (.at [.box 11 [.boo,(.num .i64),(.num .i64)]] .no)) .no))))))) .no))))))) .no))))
theorem tD:FOk Tryz.prog 67 mZ:=fk [(134,rr),(135,(mY dn))] ⟨yK,(vv dn),trivial⟩ Tryz.func67 (.two .no (.two .no (.two .no (.two .no (.two (.two .no (.loop [.slot 6 (.num .i64),.slot 7 (.num .i64)] (.two .no (.two (.at [.slot 6 (.num .i64)] .no) .no)))) .no)))))
theorem CU:FOk Tryz.prog 136 vq:=fk [] trivial Tryz.func136 (.two .no (.two .no (.join [.slot 7 (.num .i64)] .no (.two (.two .no (.loop [.slot 7 (.num .i64),.slot 8 (.num .i64)] (.two .no (.join [.slot 7 (.num .i64)] .no .no)))) (.two .no (.two (.two .no (.loop [.slot 9 (.num .i64),.slot 10 (.num .i64)] (.two .no (.join [.slot 9 (.num .i64)] .no .no)))) .no))))))
theorem xD:FOk Tryz.prog 137 sd:=fk [] trivial Tryz.func137 (.two .no (.two (.two .no (.loop [.slot 5 (.num .i64)] .no)) .no))
theorem yL:FOk Tryz.prog 138 ru:=fk [] trivial Tryz.func138 .no
theorem yM:FOk Tryz.prog 68 rv:=fk [(136,vq),(137,sd),(138,ru)] ⟨CU,xD,yL,trivial⟩ Tryz.func68 (.two .no (.two .no (.two .no (.two (.two .no (.loop [.slot 7 (.own 3 y3),.slot 8 (.num .i64),.box 6 [(.num .i64),(.own 4 y4),(.own 47 y47)]] (.two .no (.two (.two .no (.two (.two .no (.loop [.slot 7 (.own 3 y3),.slot 9 (.own 3 y3),.slot 10 (.num .i64)] (.two .no (.two (.two .no (.two .no (.join [.slot 7 (.own 3 y3),.slot 12 (.num .i64)] .no .no))) .no)))) .no)) .no)))) .no))))
theorem yN:FOk Tryz.prog 218 ry:=fk [] trivial Tryz.func218 (.two .no (.two .no (.two (.two .no (.loop [.slot 1 (.own 3 y3),.slot 2 (.num .i64)] .no)) .no)))
theorem A4:FOk Tryz.prog 139 tp:=fk [(137,sd),(218,ry)] ⟨xD,yN,trivial⟩ Tryz.func139 (.two .no (.two .no (.two .no (.two .no (.two .no (.two (.two .no (.loop [.slot 8 (.own 3 y3),.slot 9 (.own 3 y3),.slot 10 (.num .i64),.box 7 [(.num .i64),(.own 4 y4),(.own 47 y47)]] (.two .no (.two (.two .no (.two (.two .no (.loop [.slot 8 (.own 3 y3),.slot 9 (.own 3 y3),.slot 11 (.own 3 y3),.slot 12 (.num .i64)] (.two .no (.two (.two .no (.two .no (.join [.slot 8 (.own 3 y3),.slot 9 (.own 3 y3),.slot 14 (.num .i64)] .no .no))) .no)))) .no)) .no)))) .no))))))
theorem K6:FOk Tryz.prog 70 CN:=fk [] trivial Tryz.func70 (.two .no (.two (.two .no (.loop [.slot 5 (.num .i64)] .no)) .no))
theorem xE:FOk Tryz.prog 141 sf:=fk [] trivial Tryz.func141 (.two .no (.two .no (.two (.two .no (.loop [.row 3 4 y4,.slot 4 (.num .i64)] (.two .no (.two (.two .no (.loop [.row 3 4 y4,.slot 5 (.num .i64)] (.two .no (.two (.two .no (.loop [.row 3 4 y4,.slot 6 (.num .i64)] (.two .no (.join [.row 3 4 y4] .no .no)))) .no)))) .no)))) .no)))
theorem H3:FOk Tryz.prog 219 zA:=fk [] trivial Tryz.func219 (.two .no (.two .no (.two (.two .no (.loop [.slot 7 (.own 3 y3),.slot 8 (.num .i64)] (.two .no (.join [.slot 7 (.own 3 y3)] .no .no)))) .no)))
theorem yO:FOk Tryz.prog 140 rz:=fk [(70,CN),(141,sf),(219,zA)] ⟨K6,xE,H3,trivial⟩ Tryz.func140 (.two .no (.two .no (.two .no (.two (.two .no (.loop [.slot 4 (.own 3 y3),.slot 5 (.num .i64)] (.two .no (.two (.two .no (.two (.two .no (.at [.slot 6 (.num .i64)] .no)) (.two (.two .no (.at [.slot 6 (.num .i64)] .no)) .no))) .no)))) (.two (.two .no (.loop [.slot 4 (.own 3 y3),.slot 7 (.num .i64)] (.two .no (.two (.two .no (.two .no (.two (.two .no (.loop [.slot 8 (.own 47 y47),.slot 9 (.own 3 y3),.slot 10 (.num .i64)] (.two .no (.two (.at [.slot 8 (.own 47 y47),.slot 9 (.own 3 y3)] (.two .no (.two .no (.two .no (.two (.two .no (.loop [.slot 12 (.num .i64),.slot 13 (.num .i64)] (.two .no (.two (.at [.slot 12 (.num .i64)] .no) .no)))) (.two (.two .no (.at [.slot 8 (.own 47 y47),.slot 12 (.num .i64),.gone 11] .no)) .no)))))) .no)))) .no))) .no)))) .no)))))
theorem xF:FOk Tryz.prog 69 qb:=fk [(139,tp),(140,rz),(141,sf)] ⟨A4,yO,xE,trivial⟩ Tryz.func69 .no
theorem xG:FOk Tryz.prog 17 qc:=fk [(67,mZ),(68,rv),(69,qb)] ⟨tD,yM,xF,trivial⟩ Tryz.func17 .no
end R
namespace R
open Go.RowKit
open D
theorem K7:FOk Tryz.prog 304 CO:=fk [] trivial Tryz.func304 (.two .no (.two .no (.two .no (.two (.two .no (.loop [.slot 5 (.own 9 y9),.slot 6 (.num .i64),.slot 7 (.num .i64)] (.two .no (.two (.at [.slot 5 (.own 9 y9),.slot 6 (.num .i64)] .no) .no)))) .no))))
theorem pz:FOk Tryz.prog 357 ln:=fk [(295,qa)] ⟨vt,trivial⟩ Tryz.func357 .no
theorem A5:FOk Tryz.prog 358 tq:=fk [] trivial Tryz.func358 (.two .no (.two .no (.two .no (.two .no (.two (.loop [.slot 0 (.num .i64),.slot 3 .str] (.two .no (.two .no (.two (.two .no (.at [.slot 5 (.num .i64)] .no)) .no)))) .no)))))
theorem Ev:FOk Tryz.prog 336 xt:=fk [(357,ln),(358,tq)] ⟨pz,A5,trivial⟩ Tryz.func336 .no
theorem xH:FOk Tryz.prog 337 qd:=fk [(357,ln)] ⟨pz,trivial⟩ Tryz.func337 (.two .no (.two (.two .no (.loop [.slot 4 (.num .i64)] .no)) .no))
theorem H4:FOk Tryz.prog 305 zB:=fk [(336,xt),(337,qd)] ⟨Ev,xH,trivial⟩ Tryz.func305 (.two .no (.two (.two .no (.loop [.slot 3 (.num .i64)] .no)) .no))
theorem A6:FOk Tryz.prog 250 tu:=fk [(84,jO),(304,CO),(305,zB)] ⟨mG,K7,H4,trivial⟩ Tryz.func250 (.two .no (.two .no (.two .no (.two (.two .no (.loop [.slot 6 (.num .i64),.box 4 [(.own 156 ud)]] .no)) .no))))
theorem H5:FOk Tryz.prog 251 zC:=fk [(102,fU)] ⟨gZ,trivial⟩ Tryz.func251 .no
end R
namespace R
open Go.RowKit
open D
theorem Ew:FOk Tryz.prog 180 xu:=fk [(250,tu),(251,zC)] ⟨A6,H5,trivial⟩ Tryz.func180 .no
theorem uH:FOk Tryz.prog 100 qT:=fk [(102,fU)] ⟨gZ,trivial⟩ Tryz.func100 .no
theorem yP:FOk Tryz.prog 253 rA:=fk [] trivial Tryz.func253 .no
theorem zK: ∀n,FOk Tryz.prog 181 (qU n)
 | 0=>gr (f:=qU 0) (enters_of Tryz.func181 (by kernel_rfl) rfl) rfl (fun d=>rfl)
 | n+1=>by
  have ih:=zK n
  exact fk [(52,lM),(100,qT),(102,fU),(181,(qU n)),(252,uE),(253,rA),(254,qS)] ⟨pd,uH,gZ,ih,zJ,yP,uG,trivial⟩ Tryz.func181 (.two .no (.two .no (.two (.two .no (.two (.two .no (.at [.slot 20 .boo] .no)) (.two .no (.two (.two .no (.at [.slot 33 .boo] .no)) .no)))) .no)))
theorem H6:FOk Tryz.prog 99 zD:=fk [(100,qT),(102,fU),(180,xu),(181,(qU dn))] ⟨uH,gZ,Ew,(zK dn),trivial⟩ Tryz.func99 .no
theorem Ex:FOk Tryz.prog 98 xw:=fk [(52,lM),(102,fU)] ⟨pd,gZ,trivial⟩ Tryz.func98 (.two .no (.two .no (.two (.two .no (.loop [.slot 4 (.num .i64),.cur 0,.box 3 [(.own 3 (.int .i64)),(.own 137 Qh)]] .no)) (.two .no (.two (.two .no (.loop [.slot 5 (.num .i64),.slot 6 (.num .i64),.cur 0,.box 3 [(.own 3 (.int .i64)),(.own 137 Qh)]] .no)) .no)))))
theorem K8:FOk Tryz.prog 74 CP:=fk [(52,lM),(98,xw),(102,fU)] ⟨pd,Ex,gZ,trivial⟩ Tryz.func74 (.two .no (.two .no (.two (.two .no (.at [.cur 0,.box 3 [(.own 3 y3),(.own 137 Qh)]] .no)) .no)))
theorem lP:FOk Tryz.prog 89 gz:=fk [] trivial Tryz.func89 (.two .no (.two .no (.two (.two .no (.loop [.slot 13 (.num .i64)] .no)) .no)))
theorem eM:FOk Tryz.prog 90 b8:=fk [] trivial Tryz.func90 (.two .no (.two .no (.two (.two .no (.loop [.slot 17 (.num .i64)] .no)) .no)))
theorem iH:FOk Tryz.prog 92 ez:=fk [] trivial Tryz.func92 (.two .no (.two .no (.two (.two .no (.loop [.slot 13 (.num .i64)] .no)) .no)))
theorem sk:FOk Tryz.prog 91 my:=fk [(92,ez)] ⟨iH,trivial⟩ Tryz.func91 .no
end R
namespace R
open Go.RowKit
open D
theorem uI:FOk Tryz.prog 33 od:=fk [(89,gz),(90,b8),(91,my)] ⟨lP,eM,sk,trivial⟩ Tryz.func33 .no
theorem gm:FOk Tryz.prog 96 fG:=fk [] trivial Tryz.func96 .no
theorem nm:FOk Tryz.prog 229 kR:=fk [(96,fG)] ⟨gm,trivial⟩ Tryz.func229 .no
theorem Ey:FOk Tryz.prog 152 xx:=fk [(96,fG),(229,kR)] ⟨gm,nm,trivial⟩ Tryz.func152 (.two .no (.two (.two .no (.two .no (.two .no (.two .no (.two .no (.join [.slot 37 .boo] .no .no)))))) .no))
theorem lr:FOk Tryz.prog 153 bu:=CI (f:=bu) (gr (f:=⟨bu.ps,bu.rs,bu.m,none⟩) (enters_of Tryz.func153 (by kernel_rfl) rfl) rfl (fun d=>rfl)) (Gk (V:=⟨tt,[],[(5,.raw)],8,[]⟩) KZ trivial mixed Tryz.func153 rfl rfl (enters_of Tryz.func153 (by kernel_rfl) rfl) (bp rfl) .no (fun E bn xs=>by cases bn <;> kernel_rfl))
theorem qX:FOk Tryz.prog 82 oe:=fk [(152,xx),(153,bu)] ⟨Ey,lr,trivial⟩ Tryz.func82 (.two .no (.two .no (.two (.two .no (.loop [.slot 3 (.own 116 WO),.slot 13 (.num .i64)] (.two .no (.two .no (.two (.two .no (.two .no (.two (.two .no (.at [.slot 6 (.num .i64)] (.two (.two .no (.at [.slot 19 .boo] .no)) (.two .no (.two (.two .no (.at [.slot 22 .boo] .no)) .no))))) .no))) .no))))) .no))) (tr:=[(187,116,ud)])
theorem H7:FOk Tryz.prog 151 zF:=fk [(82,oe)] ⟨qX,trivial⟩ Tryz.func151 .no (tr:=[(187,116,ud)])
theorem qj:FOk Tryz.prog 81 mz:=fk [(151,zF)] ⟨H7,trivial⟩ Tryz.func81 .no
theorem rE: ∀n,FOk Tryz.prog 234 (kH n)
 | 0=>gr (f:=kH 0) (enters_of Tryz.func234 (by kernel_rfl) rfl) rfl (fun d=>rfl)
 | n+1=>by
  have ih:=rE n
  exact fk [(234,(kH n))] ⟨ih,trivial⟩ Tryz.func234 (.two .no (.two .no (.two (.two .no (.loop [.slot 3 (.num .i64),.slot 11 (.num .i64)] (.two .no (.two .no (.two (.at [.slot 3 (.num .i64)] .no) .no))))) .no))) (tr:=[(187,116,ud)])
theorem OJ:FOk Tryz.prog 320 Gq:=fk [] trivial Tryz.func320 .no (tr:=[(187,116,ud)])
theorem vx: ∀n,FOk Tryz.prog 296 (na n)
 | 0=>gr (f:=na 0) (enters_of Tryz.func296 (by kernel_rfl) rfl) rfl (fun d=>rfl)
 | n+1=>by
  have ih:=vx n
  exact fk [(296,(na n)),(320,Gq)] ⟨ih,OJ,trivial⟩ Tryz.func296 .no (tr:=[(187,116,ud)])
end R
namespace R
open Go.RowKit
open D
theorem qk: ∀n,FOk Tryz.prog 235 (jP n)
 | 0=>gr (f:=jP 0) (enters_of Tryz.func235 (by kernel_rfl) rfl) rfl (fun d=>rfl)
 | n+1=>by
  have ih:=qk n
  exact fk [(235,(jP n)),(296,(na dn))] ⟨ih,(vx dn),trivial⟩ Tryz.func235 (.two .no (.two .no (.two .no (.two (.two .no (.loop [.slot 41 (.num .i64),.box 3 [(.num .i64),(.num .i64),(.num .i64),(.num .i64),(.own 116 (.tree 187 116 ud))]] .no)) .no)))) (an:=[(52,t116)]) (tr:=[(187,116,ud)])
theorem pA: ∀n,FOk Tryz.prog 297 (jf n)
 | 0=>gr (f:=jf 0) (enters_of Tryz.func297 (by kernel_rfl) rfl) rfl (fun d=>rfl)
 | n+1=>by
  have ih:=pA n
  exact fk [(297,(jf n))] ⟨ih,trivial⟩ Tryz.func297 (.two (.two .no (.loop [.slot 11 (.num .i64),.box 1 [(.own 156 ud)]] .no)) .no) (tr:=[(187,116,ud)])
theorem A7:FOk Tryz.prog 236 tv:=fk [(297,(jf dn))] ⟨(pA dn),trivial⟩ Tryz.func236 .no (tr:=[(187,116,ud)])
theorem yQ:FOk Tryz.prog 168 rB:=fk [(81,mz),(82,oe),(234,(kH dn)),(235,(jP dn)),(236,tv)] ⟨qj,qX,(rE dn),(qk dn),A7,trivial⟩ Tryz.func168 .no (tr:=[(187,116,ud)])
theorem re:FOk Tryz.prog 237 lD:=fk [] trivial Tryz.func237 (.two .no (.loop [.slot 12 (.num .i64),.par 4 [3] 3 y3] (.two .no (.two .no (.two (.at [.par 4 [3] 3 y3] .no) .no)))))
theorem mH: ∀n,FOk Tryz.prog 169 (fV n)
 | 0=>gr (f:=fV 0) (enters_of Tryz.func169 (by kernel_rfl) rfl) rfl (fun d=>rfl)
 | n+1=>by
  have ih:=mH n
  exact fk [(169,(fV n)),(237,lD)] ⟨ih,re,trivial⟩ Tryz.func169 (.two .no (.two (.two .no (.two .no (.two .no (.two .no (.two .no (.two .no (.two .no (.two .no (.two (.two .no (.two .no (.two .no (.two (.two .no (.at [.box 10 [(.num .i64),(.num .i64),.boo]] .no)) (.two (.two .no (.at [.box 10 [(.num .i64),(.num .i64),.boo]] .no)) .no))))) .no))))))))) .no)) (tr:=[(187,116,ud)])
theorem tE:FOk Tryz.prog 86 nc:=fk [(82,oe),(168,rB),(169,(fV dn))] ⟨qX,yQ,(mH dn),trivial⟩ Tryz.func86 (.two .no (.two .no (.two .no (.two .no (.two (.two .no (.loop [.slot 6 (.num .i64),.slot 22 (.num .i64)] (.two .no (.two .no (.two (.at [.slot 6 (.num .i64)] .no) .no))))) .no))))) (tr:=[(187,116,ud)])
theorem pB:FOk Tryz.prog 170 lp:=fk [] trivial Tryz.func170 (.two .no (.two .no (.two .no (.two .no (.two (.two .no (.loop [.slot 10 (.own 3 y3),.slot 11 (.map ⟨3,3,.int,.int⟩),.slot 13 (.num .i64),.box 12 [(.num .i64),(.own 4 y4),(.own 47 y47)]] (.two .no (.two (.two .no (.two (.two .no (.loop [.slot 10 (.own 3 y3),.slot 11 (.map ⟨3,3,.int,.int⟩),.slot 14 (.own 3 y3),.slot 15 (.num .i64)] (.two .no (.join [.slot 10 (.own 3 y3),.slot 11 (.map ⟨3,3,.int,.int⟩),.slot 14 (.own 3 y3)] (.two .no (.two .no (.two .no (.join [.slot 10 (.own 3 y3),.slot 11 (.map ⟨3,3,.int,.int⟩),.slot 18 (.num .i64)] .no .no)))) .no)))) .no)) .no)))) .no)))))
theorem ql:FOk Tryz.prog 171 kS:=fk [] trivial Tryz.func171 .no
theorem sn:FOk Tryz.prog 173 mA:=fk [] trivial Tryz.func173 (.two .no (.two .no (.join [.slot 7 (.num .i64)] .no (.two (.two .no (.loop [.slot 7 (.num .i64),.slot 21 (.num .i64)] (.two .no (.two .no (.join [.slot 7 (.num .i64)] .no .no))))) (.two .no (.two (.two .no (.loop [.slot 10 (.num .i64),.slot 39 (.num .i64)] (.two .no (.two .no (.join [.slot 10 (.num .i64)] .no .no))))) .no))))))
theorem uJ:FOk Tryz.prog 172 oh:=fk [(173,mA)] ⟨sn,trivial⟩ Tryz.func172 .no
theorem xI:FOk Tryz.prog 87 qe:=fk [(170,lp),(171,kS),(172,oh)] ⟨pB,ql,uJ,trivial⟩ Tryz.func87 .no
theorem lQ:FOk Tryz.prog 321 bD:=CI (f:=bD) (gr (f:=⟨bD.ps,bD.rs,bD.m,none⟩) (enters_of Tryz.func321 (by kernel_rfl) rfl) rfl (fun d=>rfl)) (Gk (V:=⟨tt,[],[(5,.raw)],8,[]⟩) KZ trivial mixed Tryz.func321 rfl rfl (enters_of Tryz.func321 (by kernel_rfl) rfl) (bp rfl) .no (fun E bn xs=>by cases bn <;> kernel_rfl))
theorem tF:FOk Tryz.prog 298 ng:=fk [(321,bD)] ⟨lQ,trivial⟩ Tryz.func298 (.two .no (.two .no (.two (.two .no (.loop [.slot 4 .boo,.row 3 4 y4] (.two .no (.two .no (.two .no (.loop [.slot 4 .boo,.slot 16 (.num .i64),.row 3 4 y4] (.two .no (.two .no (.two (.two .no (.two .no (.loop [.slot 4 .boo,.slot 23 (.num .i64),.row 3 4 y4] (.two .no (.two .no (.two (.at [.slot 4 .boo,.row 3 4 y4] .no) .no)))))) .no))))))))) .no)))
theorem jC:FOk Tryz.prog 322 eu:=fk [] trivial Tryz.func322 (.two .no (.two (.two .no (.loop [.slot 8 (.num .i64)] .no)) .no))
theorem pI:FOk Tryz.prog 323 jX:=fk [(92,ez)] ⟨iH,trivial⟩ Tryz.func323 .no
theorem rf:FOk Tryz.prog 299 lE:=fk [(322,eu),(323,jX)] ⟨jC,pI,trivial⟩ Tryz.func299 (.two .no (.two .no (.two .no (.two (.two .no (.loop [.slot 6 (.own 47 y47),.slot 7 (.own 3 y3),.slot 18 (.num .i64)] (.two .no (.two .no (.join [.slot 6 (.own 47 y47),.slot 7 (.own 3 y3)] (.two .no (.two .no (.two .no (.two (.two .no (.loop [.slot 36 (.num .i64),.box 10 [(.own 3 y3)]] (.two .no (.two .no (.two (.two .no (.join [.slot 12 (.num .i64)] .no .no)) .no))))) (.two .no (.join [.slot 6 (.own 47 y47),.slot 13 (.num .i64),.gone 10] .no .no)))))) .no))))) .no))))
end R
namespace R
open Go.RowKit
open D
theorem qm:FOk Tryz.prog 238 kT:=fk [(298,ng),(299,lE)] ⟨tF,rf,trivial⟩ Tryz.func238 (.two .no (.two .no (.two (.two .no (.loop [.slot 3 (.own 3 y3),.slot 13 (.num .i64)] (.two .no (.two .no (.join [.slot 3 (.own 3 y3)] .no .no))))) (.two .no (.loop [.slot 3 (.own 3 y3),.slot 6 (.num .i64)] .no)))))
theorem so:FOk Tryz.prog 349 mB:=fk [] trivial Tryz.func349 .no
theorem sp:FOk Tryz.prog 350 mC:=fk [] trivial Tryz.func350 .no
theorem uK:FOk Tryz.prog 324 oi:=fk [(349,mB),(350,mC)] ⟨so,sp,trivial⟩ Tryz.func324 .no
theorem hY:FOk Tryz.prog 300 dW:=fk [(324,oi)] ⟨uK,trivial⟩ Tryz.func300 (.two .no (.two .no (.two .no (.two .no (.two .no (.two .no (.two (.loop [.slot 8 (.num .i64),.row 7 3 (.int .i64)] .no) .no))))))) (an:=[(44,.bool)])
theorem Ez:FOk Tryz.prog 239 xy:=fk [(300,dW)] ⟨hY,trivial⟩ Tryz.func239 .no
theorem iI:FOk Tryz.prog 178 eA:=fk [] trivial Tryz.func178 (.two .no (.two (.two .no (.loop [.slot 8 (.num .i64)] .no)) .no))
theorem oq:FOk Tryz.prog 240 jx:=fk [(178,eA)] ⟨iI,trivial⟩ Tryz.func240 .no
theorem ot:FOk Tryz.prog 241 jy:=fk [] trivial Tryz.func241 .no
theorem jQ:FOk Tryz.prog 243 gA:=fk [(229,kR)] ⟨nm,trivial⟩ Tryz.func243 .no
theorem ou:FOk Tryz.prog 242 jz:=fk [(243,gA)] ⟨jQ,trivial⟩ Tryz.func242 .no
theorem pJ:FOk Tryz.prog 174 jY:=fk [(170,lp),(238,kT),(239,xy),(240,jx),(241,jy),(242,jz)] ⟨pB,qm,Ez,oq,ot,ou,trivial⟩ Tryz.func174 .no
theorem K9:FOk Tryz.prog 88 CQ:=fk [(174,jY)] ⟨pJ,trivial⟩ Tryz.func88 .no
theorem xJ:FOk Tryz.prog 32 qf:=fk [(86,nc),(87,qe),(88,CQ)] ⟨tE,xI,K9,trivial⟩ Tryz.func32 .no
end R
namespace R
open Go.RowKit
open D
theorem CV:FOk Tryz.prog 133 vr:=fk [] trivial Tryz.func133 .no
theorem rh:FOk Tryz.prog 145 lF:=fk [(96,fG)] ⟨gm,trivial⟩ Tryz.func145 (.two .no (.two .no (.two .no (.two (.two .no (.loop [.slot 32 (.num .i64)] (.two .no (.two .no (.two (.two .no (.two (.two .no (.loop [.slot 38 (.num .i64)] .no)) .no)) .no))))) .no))))
end R
namespace R
open Go.RowKit
open D
theorem H8:FOk Tryz.prog 146 zG:=fk [(96,fG)] ⟨gm,trivial⟩ Tryz.func146 .no
theorem jh:FOk Tryz.prog 78 fZ:=fk [(96,fG),(146,zG)] ⟨gm,H8,trivial⟩ Tryz.func78 (.two .no (.two .no (.two (.two .no (.loop [.slot 14 (.num .i64)] .no)) (.two (.two .no (.loop [.slot 25 (.num .i64)] .no)) .no))))
theorem uL:FOk Tryz.prog 93 qV:=fk [(78,fZ),(96,fG),(145,lF)] ⟨jh,gm,rh,trivial⟩ Tryz.func93 (.two .no (.two (.two .no (.loop [.slot 11 (.num .i64)] .no)) .no))
theorem H9:FOk Tryz.prog 244 zH:=fk [(300,dW)] ⟨hY,trivial⟩ Tryz.func244 (.two .no (.two .no (.two .no (.two (.two .no (.loop [.slot 6 (.own 3 (.int .i64)),.slot 18 (.num .i64),.row 5 3 y3] .no)) (.two (.loop [.slot 6 (.own 3 (.int .i64)),.row 5 3 y3] (.two .no (.two (.two .no (.loop [.slot 6 (.own 3 y3),.slot 42 (.num .i64),.row 5 3 y3] (.two .no (.two .no (.two (.at [.slot 6 (.own 3 y3),.row 5 3 y3] .no) .no))))) .no))) .no))))) (an:=[(34,.bool)])
theorem La:FOk Tryz.prog 294 CR:=fk [] trivial Tryz.func294 .no
end R
namespace R
open Go.RowKit
open D
theorem Gr:FOk Tryz.prog 230 A3:=fk [(294,CR)] ⟨La,trivial⟩ Tryz.func230 (.two .no (.two .no (.two (.two .no (.loop [.slot 13 (.num .i64),.row 3 238 WR] .no)) .no)))
theorem sq:FOk Tryz.prog 246 o9:=fk [] trivial Tryz.func246 (.two .no (.two .no (.two (.two .no (.loop [.slot 3 (.own 3 y3),.slot 4 (.num .i64)] (.two .no (.join [.slot 3 (.own 3 y3)] .no .no)))) .no)))
theorem xK:FOk Tryz.prog 247 si:=fk [(243,gA)] ⟨jQ,trivial⟩ Tryz.func247 (.two .no (.two .no (.two (.two .no (.loop [.slot 7 (.num .i64),.slot 8 (.num .i64)] .no)) .no)))
theorem Lb:FOk Tryz.prog 301 CS:=fk [(243,gA),(246,o9),(247,si)] ⟨jQ,sq,xK,trivial⟩ Tryz.func301 (.two .no (.two .no (.two (.two .no (.loop [.slot 9 (.num .i64),.slot 18 (.num .i64)] (.two .no (.two .no (.two (.two .no (.two .no (.loop [.slot 9 (.num .i64),.slot 28 (.num .i64)] (.two .no (.two .no (.join [.slot 9 (.num .i64)] .no .no)))))) .no))))) .no)))
theorem vG:FOk Tryz.prog 245 pw:=fk [(230,A3),(246,o9),(301,CS)] ⟨Gr,sq,Lb,trivial⟩ Tryz.func245 (.two .no (.two .no (.two .no (.two (.two .no (.loop [.slot 26 (.num .i64),.row 6 47 y47] (.two .no (.two .no (.two (.two .no (.two .no (.loop [.slot 9 (.num .i64),.row 6 47 y47] (.two .no (.two (.two .no (.loop [.slot 38 (.num .i64),.row 6 47 y47] (.two .no (.two .no (.two (.two .no (.two .no (.loop [.slot 55 (.num .i64),.row 6 47 y47] .no))) .no))))) .no))))) .no))))) .no))))
theorem uM:FOk Tryz.prog 175 oj:=XS (V:=⟨tt,[(93,qV),(244,zH),(245,pw)],[(1000000,.raw)],26,[]⟩) KZ ⟨uL,H9,vG,trivial⟩ mixed Tryz.func175 rfl rfl (enters_of Tryz.func175 (by kernel_rfl) rfl) ⟨rfl,rfl⟩ (bp rfl) rfl .no (fun d=>by kernel_rfl)
theorem A8:FOk Tryz.prog 176 tw:=fk [(246,o9),(247,si)] ⟨sq,xK,trivial⟩ Tryz.func176 (.two .no (.two (.two .no (.loop [.slot 14 (.num .i64)] (.two .no (.two .no (.two (.two .no (.two .no (.loop [.slot 24 (.num .i64)] .no))) .no))))) .no))
theorem nK:FOk Tryz.prog 248 iZ:=KY Es (enters_of Tryz.func248 (by kernel_rfl) rfl) 3
theorem lR:FOk Tryz.prog 249 gB:=fk [] trivial Tryz.func249 (.two .no (.two .no (.two (.two .no (.loop [.slot 3 (.num .i64)] (.two .no (.two (.two .no (.two (.two .no (.two (.two .no (.loop [.slot 3 (.num .i64),.slot 5 (.num .i64),.row 0 3 y3] (.two .no (.two (.at [.slot 3 (.num .i64),.row 0 3 y3] .no) .no)))) .no)) .no)) .no)))) .no))) (an:=[(28,.raw),(56,.raw),(59,.raw)])
theorem A9:FOk Tryz.prog 177 tx:=fk [(133,vr),(248,iZ),(249,gB)] ⟨CV,nK,lR,trivial⟩ Tryz.func177 .no
theorem qn:FOk Tryz.prog 94 mD:=fk [(175,oj),(176,tw),(177,tx)] ⟨uM,A8,A9,trivial⟩ Tryz.func94 (.two .no (.two .no (.two .no (.two (.two .no (.loop [.slot 7 (.own 3 y3),.slot 20 (.num .i64)] (.two .no (.two .no (.two (.at [.slot 7 (.own 3 y3)] .no) .no))))) .no))))
theorem yR:FOk Tryz.prog 34 rC:=fk [(93,qV),(94,mD)] ⟨uL,qn,trivial⟩ Tryz.func34 (.two .no (.two .no (.two .no (.two (.two .no (.loop [.slot 5 (.own 65 y65),.slot 17 (.num .i64)] (.two .no (.two .no (.two (.two .no (.two .no (.loop [.slot 5 (.own 65 y65),.slot 25 (.num .i64)] .no))) .no))))) .no))))
theorem Ia:FOk Tryz.prog 111 zI:=fk [(110,lN)] ⟨nk,trivial⟩ Tryz.func111 .no
theorem lu:FOk Tryz.prog 44 jg:=fk [(110,lN),(111,zI)] ⟨nk,Ia,trivial⟩ Tryz.func44 (.two .no (.two (.two .no (.loop [.slot 3 (.num .i64)] .no)) (.two (.two .no (.loop [.slot 4 (.num .i64)] .no)) .no)))
end R
namespace R
open Go.RowKit
open D
theorem yS:FOk Tryz.prog 27 rD:=fk [] trivial Tryz.func27 (.two .no (.two .no (.two (.two .no (.loop [.slot 5 (.num .i64)] .no)) .no)))
theorem xL:FOk Tryz.prog 193 sj:=fk [] trivial Tryz.func193 .no
theorem uN:FOk Tryz.prog 150 qW:=fk [(193,sj)] ⟨xL,trivial⟩ Tryz.func150 (.two .no (.two .no (.two (.loop [.slot 5 (.num .i64)] .no) .no))) (an:=[(36,.bool)])
end R
namespace R
open Go.RowKit
open D
theorem Lc:FOk Tryz.prog 53 CT:=fk [(99,zD),(100,qT),(102,fU)] ⟨H6,uH,gZ,trivial⟩ Tryz.func53 (.two .no (.two .no (.two (.two .no (.at [.cur 0,.box 3 [(.own 156 ud)]] (.two .no (.two .no (.two .no (.two .no (.two .no (.two (.two (.loop [.box 3 [(.own 156 ud)]] .no) .no) .no)))))))) .no))) (an:=[(12,.bool)])
theorem ri:FOk Tryz.prog 29 lG:=fk [(50,CM),(53,CT),(74,CP)] ⟨K5,Lc,K8,trivial⟩ Tryz.func29 .no
theorem iJ:FOk Tryz.prog 154 fg:=fk [] trivial Tryz.func154 (.two .no (.two .no (.two .no (.two (.two .no (.loop [.slot 3 (.own 65 y65),.slot 4 (.num .i64)] .no)) .no))))
theorem xM:FOk Tryz.prog 179 qg:=fk [] trivial Tryz.func179 .no
theorem pC:FOk Tryz.prog 97 lq:=fk [(179,qg)] ⟨xM,trivial⟩ Tryz.func97 .no
theorem jV (a b:Int) (W:World):Calls Tryz.prog 179 #[.int .i64 a,.int .i64 b] W fun e w'=>e= .returned (.int .i64 (cmpI a b))/\w'=W:=by
 unfold cmpI
 by_cases h:a<b
 ·go_enter Tryz.func179,Tryz.ntmps179
  go_wp2
  go_ret
  simp[h]
 ·by_cases k:b<a
  ·go_enter Tryz.func179,Tryz.ntmps179
   go_wp2
   go_ret
   simp[h,k]
  ·go_enter Tryz.func179,Tryz.ntmps179
   go_wp2
   go_ret
   simp[h,k]
theorem jW (x y:Int×Int) (W:World):Calls Tryz.prog 97 #[.agg #[.int .i64 x.1,.int .i64 x.2],.agg #[.int .i64 y.1,.int .i64 y.2]] W fun e w'=>e= .returned (.int .i64 (HV x y))/\ ∃q os',w'=Go.Sort.grow (W.drewN q) os':=by
 unfold HV
 have hcon:=jV
 generalize cmpI=cf at hcon⊢
 by_cases h:x.1=y.1
 ·rw[if_pos h]
  go_enter Tryz.func97,Tryz.ntmps97
  go_wp2_with (go_at_call 179;refine (hcon _ _ _).mono ?_;rintro e w' ⟨rfl,rfl⟩)
  go_ret
  exact ⟨rfl,0,_,by rw[Go.Sort.alloc_eq_grow,Go.Sort.alloc_eq_grow,Go.Sort.grow_grow];rfl⟩
 ·rw[if_neg h]
  go_enter Tryz.func97,Tryz.ntmps97
  go_wp2_with (go_at_call 179;refine (hcon _ _ _).mono ?_;rintro e w' ⟨rfl,rfl⟩)
  go_ret
  exact ⟨rfl,0,_,by rw[Go.Sort.alloc_eq_grow,Go.Sort.alloc_eq_grow,Go.Sort.grow_grow];rfl⟩
theorem kj:FOk Tryz.prog 259 fH:=KV yJ (by intro w;kernel_rfl) (by intro w;kernel_rfl) OG OH (enters_of Tryz.func97 (by kernel_rfl) rfl) (fun _ _ _ _ _ _ _ _ x y=>jW x y _) (enters_of Tryz.func259 (by kernel_rfl) rfl) 65
theorem kU:FOk Tryz.prog 260 fM:=fk [] trivial Tryz.func260 (.two .no (.two .no (.two (.two .no (.loop [.slot 3 (.num .i64)] (.two .no (.two (.two .no (.two (.two .no (.two (.two .no (.loop [.slot 3 (.num .i64),.slot 5 (.num .i64),.row 0 65 y65] (.two .no (.two (.at [.slot 3 (.num .i64),.row 0 65 y65] .no) .no)))) .no)) .no)) .no)))) .no))) (an:=[(28,.raw),(56,.raw),(59,.raw)])
theorem sr:FOk Tryz.prog 187 pa:=fk [(97,lq),(259,fH),(260,fM)] ⟨pC,kj,kU,trivial⟩ Tryz.func187 .no
theorem EA:FOk Tryz.prog 231 xz:=fk [(78,fZ),(96,fG),(229,kR)] ⟨jh,gm,nm,trivial⟩ Tryz.func231 .no
theorem tG:FOk Tryz.prog 155 nh:=fk [(78,fZ),(187,pa),(229,kR),(230,A3),(231,xz)] ⟨jh,sr,nm,Gr,EA,trivial⟩ Tryz.func155 (.two .no (.two .no (.two .no (.two (.two .no (.loop [.slot 5 (.own 65 y65),.slot 22 (.num .i64)] (.two .no (.two .no (.two (.at [.slot 5 (.own 65 y65)] (.two .no (.two (.two .no (.loop [.slot 5 (.own 65 y65),.slot 29 (.num .i64)] (.two .no (.two .no (.two (.at [.slot 5 (.own 65 y65)] .no) .no))))) .no))) .no))))) .no))))
theorem iK:FOk Tryz.prog 156 fh:=fk [(187,pa)] ⟨sr,trivial⟩ Tryz.func156 (.two .no (.two .no (.two (.two .no (.loop [.slot 5 (.own 65 y65),.slot 14 (.num .i64)] (.two .no (.two .no (.two (.two .no (.two .no (.loop [.slot 5 (.own 65 y65),.slot 20 (.num .i64)] (.two .no (.two .no (.join [.slot 5 (.own 65 y65)] .no .no)))))) .no))))) .no)))
theorem nL:FOk Tryz.prog 157 kI:=fk [(187,pa)] ⟨sr,trivial⟩ Tryz.func157 .no
theorem qo:FOk Tryz.prog 38 ni:=fk [(96,fG),(97,lq)] ⟨gm,pC,trivial⟩ Tryz.func38 (.two .no (.two (.two .no (.loop [.slot 7 (.num .i64)] .no)) .no))
theorem ss:FOk Tryz.prog 158 mE:=fk [(38,ni),(96,fG),(154,fg),(156,fh),(157,kI)] ⟨qo,gm,iJ,iK,nL,trivial⟩ Tryz.func158 (.two .no (.two .no (.two .no (.loop [.slot 5 (.own 65 y65)] .no))))
theorem uO:FOk Tryz.prog 159 om:=fk [(38,ni),(96,fG),(154,fg),(156,fh),(157,kI)] ⟨qo,gm,iJ,iK,nL,trivial⟩ Tryz.func159 (.two .no (.two .no (.two .no (.two .no (.two (.two .no (.loop [.slot 9 (.own 65 y65),.slot 10 (.own 65 y65),.slot 11 (.num .i64)] (.two .no (.two (.join [.slot 9 (.own 65 y65)] .no .no) .no)))) .no)))))
theorem ox: ∀n,FOk Tryz.prog 83 (iD n)
 | 0=>gr (f:=iD 0) (enters_of Tryz.func83 (by kernel_rfl) rfl) rfl (fun d=>rfl)
 | n+1=>by
  have ih:=ox n
  exact fk [(83,(iD n)),(154,fg),(155,nh),(156,fh),(157,kI),(158,mE),(159,om)] ⟨ih,iJ,tG,iK,nL,ss,uO,trivial⟩ Tryz.func83 .no (tr:=[(187,116,ud)])
end R
namespace R
open Go.RowKit
open D
theorem vH:FOk Tryz.prog 30 px:=fk [(78,fZ),(81,mz),(82,oe),(83,(iD dn))] ⟨jh,qj,qX,(ox dn),trivial⟩ Tryz.func30 .no (tr:=[(187,116,ud)])
theorem iL:FOk Tryz.prog 161 fj:=fk [] trivial Tryz.func161 (.two .no (.two .no (.two (.two .no (.loop [.slot 3 (.own 65 y65),.slot 4 (.num .i64)] .no)) .no)))
theorem EB:FOk Tryz.prog 233 xA:=fk [(44,jg),(110,lN)] ⟨lu,nk,trivial⟩ Tryz.func233 .no
theorem tH:FOk Tryz.prog 162 nj:=fk [(44,jg),(150,qW),(233,xA)] ⟨lu,uN,EB,trivial⟩ Tryz.func162 (.two .no (.two .no (.two .no (.two (.two .no (.loop [.slot 5 (.own 65 y65),.slot 6 (.num .i64)] (.two .no (.join [.slot 5 (.own 65 y65)] .no .no)))) (.two (.two .no (.loop [.slot 5 (.own 65 y65),.slot 7 (.num .i64)] (.two .no (.join [.slot 5 (.own 65 y65)] (.two .no (.join [.slot 5 (.own 65 y65)] .no .no)) .no)))) .no)))))
theorem iM:FOk Tryz.prog 164 fl:=fk [(150,qW)] ⟨uN,trivial⟩ Tryz.func164 (.two .no (.two .no (.two (.two .no (.loop [.slot 5 (.own 65 y65),.slot 6 (.num .i64)] (.two .no (.two (.two .no (.loop [.slot 5 (.own 65 y65),.slot 7 (.num .i64)] (.two .no (.join [.slot 5 (.own 65 y65)] .no .no)))) .no)))) .no)))
theorem nM:FOk Tryz.prog 165 kJ:=fk [(150,qW)] ⟨uN,trivial⟩ Tryz.func165 (.two .no (.two .no (.two (.two .no (.loop [.slot 5 (.own 65 y65),.slot 6 (.num .i64)] .no)) (.two (.two .no (.loop [.slot 5 (.own 65 y65),.slot 7 (.num .i64)] .no)) .no))))
theorem vy:FOk Tryz.prog 107 qi:=fk [(110,lN),(193,sj)] ⟨nk,xL,trivial⟩ Tryz.func107 (.two .no (.two (.two .no (.loop [.slot 3 (.num .i64)] .no)) .no))
theorem su:FOk Tryz.prog 166 mF:=fk [(107,qi),(110,lN),(161,fj),(164,fl),(165,kJ)] ⟨vy,nk,iL,iM,nM,trivial⟩ Tryz.func166 (.two .no (.two .no (.two .no (.two (.two .no (.loop [.slot 5 (.own 65 y65),.slot 6 (.num .i64)] .no)) .no))))
theorem uP:FOk Tryz.prog 167 oo:=fk [(107,qi),(110,lN),(161,fj),(164,fl),(165,kJ)] ⟨vy,nk,iL,iM,nM,trivial⟩ Tryz.func167 (.two .no (.two .no (.two .no (.two .no (.two (.two .no (.loop [.slot 9 (.own 65 y65),.slot 10 (.own 65 y65),.slot 11 (.num .i64)] (.two .no (.two (.join [.slot 9 (.own 65 y65)] .no .no) .no)))) .no)))))
theorem xN: ∀n,FOk Tryz.prog 85 (pb n)
 | 0=>gr (f:=pb 0) (enters_of Tryz.func85 (by kernel_rfl) rfl) rfl (fun d=>rfl)
 | n+1=>by
  have ih:=xN n
  exact fk [(85,(pb n)),(161,fj),(162,nj),(163,mw),(164,fl),(165,kJ),(166,mF),(167,oo)] ⟨ih,iL,tH,pe,iM,nM,su,uP,trivial⟩ Tryz.func85 .no
theorem vI:FOk Tryz.prog 31 py:=fk [(44,jg),(84,jO),(85,(pb dn))] ⟨lu,mG,(xN dn),trivial⟩ Tryz.func31 .no
theorem lx:FOk Tryz.prog 95 ga:=fk [(178,eA)] ⟨iI,trivial⟩ Tryz.func95 .no
theorem tI:FOk Tryz.prog 35 pc:=fk [(94,mD),(95,ga)] ⟨qn,lx,trivial⟩ Tryz.func35 .no
theorem SH:FOk Tryz.prog 36 K4:=fk [] trivial Tryz.func36 (.two .no (.two (.two .no (.loop [.slot 5 (.num .i64)] .no)) .no))
theorem Ba:FOk Tryz.prog 37 tz:=fk [(35,pc),(93,qV)] ⟨tI,uL,trivial⟩ Tryz.func37 (.two .no (.two .no (.two .no (.two (.two .no (.loop [.slot 7 (.own 3 y3),.slot 19 (.num .i64)] (.two .no (.two .no (.join [.slot 7 (.own 3 y3)] .no .no))))) .no))))
theorem uQ:FOk Tryz.prog 5 uF:=fk [(8,K0),(17,qc),(27,rD),(29,lG),(30,px),(31,py),(32,qf),(33,od),(34,rC),(35,pc),(36,K4),(37,tz),(38,ni)] ⟨SG,xG,yS,ri,vH,vI,xJ,uI,yR,tI,SH,Ba,qo,trivial⟩ Tryz.func5 (.two .no (.two .no (.two .no (.two .no (.two .no (.two .no (.two .no (.two .no (.two .no (.two .no (.two .no (.two (.two .no (.loop [.slot 14 (.num .i64)] .no)) .no))))))))))))
end R
namespace D
open Go.RowKit
end D
namespace D
open Go.RowKit
theorem uR (x0:List Int) (r:Bool) (hm:iC x0=some r) {I:Hp} {w0:World} (v0_0:Value) (r0_0:(aA 5 rU8).rd I [v0_0] x0) (hL:Lay Tryz.prog I):Con Tryz.prog 5 #[v0_0] I w0 [] (fun v=>v= .bool r) (fun _=>[]):=fun w C hs =>
 ((R.uQ).con rfl w0 I undef [v0_0] (x0,()) r hL ⟨_,_,rfl,⟨[v0_0],rfl,r0_0⟩,rfl⟩ hm w C hs).mono fun e w' ⟨v,he,_,hst⟩=>by
  obtain ⟨h1,h2⟩:=R.sP (h1:=fun _=>rfl) (show St I w0 w' (Ch.own R.Ty.bool.rep [v] r::C) from hst)
  exact ⟨v,he,(List.cons.inj h1).1,h2⟩
end D
namespace D
open Go.RowKit
def I64 (n:Int):Prop:= -9223372036854775808<=n/\n<=9223372036854775807
class Data (α:Type) where
 lim:α->Prop
 sm:α->Prop
instance:Data Int:=⟨I64,fun _=>True⟩
instance:Data Bool:=⟨fun _=>True,fun _=>True⟩
instance:Data ByteArray:=⟨fun s=>s.size<=9223372036854775807,fun s=>s.size<=1048576⟩
instance {α β:Type} [Data α] [Data β] :Data (α×β):=⟨fun x=>Data.lim x.1/\Data.lim x.2,fun x=>Data.sm x.1/\Data.sm x.2⟩
instance {α:Type} [Data α] :Data (List α):=⟨fun xs=>xs.length<=9223372036854775807/\ ∀x,x∈xs->Data.lim x,fun xs=>xs.length<=1048576/\ ∀x,x∈xs->Data.sm x⟩
structure Opens (P:Program) (t:TypeId) {α:Type} [Data α] (R:Rep α):Prop where
 out: ∀ {H:Type} (enc:TypeId×Value->H) (w:World) (fuel:Nat) (cs:List Value) (x:DataW H×List MemPlace),DataW.trod enc P w 0 (fun _=>true) true fuel t cs=some x-> ∃a:α,R.rd (hp w) cs a/\Data.lim a
theorem OK {P:Program} {t:TypeId} (h:P.underlying t=some (.int .u8)):Opens P t rU8:=by
 constructor
 intro H enc w fuel cs x hx
 obtain ⟨n,rfl,-,hw⟩:=DataW.trod_int h hx
 refine ⟨n,rfl,show I64 n from ?_⟩
 simp[Lit.wf,IntKind.min,IntKind.max,IntKind.signed,IntKind.bits] at hw
 unfold I64
 omega
theorem EC {P:Program} {t e:TypeId} {α:Type} [Data α] {R:Rep α} {E:TypeId} (h:P.underlying t=some (.slice e)) (hc:P.cellsOf e=R.size) (h0:0<R.size) (he:Opens P e R):Opens P t (aA E R):=by
 constructor
 intro H enc w fuel cs x hx
 rcases Go.Deep.open_slice h hx with ⟨rfl,-⟩ | ⟨a,len,cap,m,n,D,Pl,rfl,-,hl,hm,hmm,-,hel⟩
 ·exact ⟨[],⟨none,0,rfl,by simp,.inl rfl⟩,Nat.zero_le _,fun x hx=>by cases hx⟩
 have hlm:m=cap:=by simpa using hmm
 subst hlm
 rw[hc] at hel
 by_cases hz:len=0
 ·subst hz
  exact ⟨[],⟨some a,m,rfl,by simp,.inl rfl⟩,Nat.zero_le _,fun x hx=>by cases hx⟩
 ·have hone: ∀i,i<len-> ∃c:List Value,∃y:α,c.length=R.size/\(∀j,j<R.size->w.cell? ((a.add (i*R.size)).add j)=c[j]?)/\R.rd (hp w) c y/\Data.lim y:=by
   intro i hi
   obtain ⟨c,h1,h2⟩:=hel i (by omega)
   obtain ⟨-,h3,h4⟩:=World.cells?_some h1
   obtain ⟨y,hy⟩:=he.out enc w _ _ _ h2
   exact ⟨c,y,h3,h4,hy⟩
  obtain ⟨c0,y0,hc0,hr0,-⟩:=hone 0 (by omega)
  have h00:=hr0 0 h0
  have hsome: ∃v,c0[0]? =some v:=⟨_,List.getElem?_eq_getElem (by omega)⟩
  obtain ⟨v,hv⟩:=hsome
  rw[hv] at h00
  have ha:(a.add (0*R.size)).add 0=a:=by simp[Addr.add]
  rw[ha] at h00
  obtain ⟨b,off,spot⟩:=a
  have hb: ∃ccs T fr,w.heap[b]? =some (.cells ccs T fr)/\spot=none:=by
   simp only[World.cell?] at h00
   split at h00
   ·rename_i ccs T fr heq
    cases spot with
    | none=>exact ⟨ccs,T,fr,heq,rfl⟩
    | some s=>simp at h00
   ·simp at h00
  obtain ⟨ccs,T,fr,hh,rfl⟩:=hb
  have hadd: ∀i j,(Addr.add ⟨b,off,none⟩ i).add j=⟨b,off+i+j,none⟩:=by
   intro i j
   by_cases h1:i=0 <;> by_cases h2:j=0 <;> simp[Addr.add,h1,h2,Nat.add_assoc]
  haveI:Inhabited α:=⟨y0⟩
  obtain ⟨X,hX⟩:=Go.Deep.choose_lt (α:=α) (n:=len) (p:=fun i y=> ∃c:List Value,c.length=R.size/\(∀j,j<R.size->ccs.toList[off+i*R.size+j]? =c[j]?)/\R.rd (hp w) c y/\Data.lim y) (fun i hi=>by
   obtain ⟨c,y,h1,h2,h3⟩:=hone i hi
   refine ⟨y,c,h1,fun j hj=>?_,h3⟩
   have:=h2 j hj
   rw[hadd] at this
   simp only[World.cell?,hh] at this
   simpa using this)
  have hlen:((List.range len).map X).length=len:=by simp
  have hel2: ∀i y,((List.range len).map X)[i]? =some y->i<len/\y=X i:=fun i y hy=>by
   have hi:i<len:=by have:=(List.getElem?_eq_some_iff.1 hy).1;omega
   exact ⟨hi,by simpa [hi] using hy.symm⟩
  refine ⟨(List.range len).map X,⟨some ⟨b,off,none⟩,m,by rw[hlen],by rw[hlen];unfold maxLen at hm;unfold lim;omega,.inr ⟨b,off,ccs,T,fr,rfl,hh,fun i y hy=>?_⟩⟩,by rw[hlen];unfold maxLen at hm;omega,fun y hy=>?_⟩
  ·obtain ⟨hi,rfl⟩:=hel2 i y hy
   obtain ⟨c,e1,e2,e3,-⟩:=hX i hi
   exact ⟨c,e1,e2,e3⟩
  ·obtain ⟨i,hi,he⟩:=List.mem_iff_getElem?.1 hy |>.imp fun i hi=>hel2 i y hi
   obtain ⟨-,-,-,-,e4⟩:=hX i hi
   rw[he];exact e4
theorem St.below {w0 w:World} {cs:List Ch} (h:St (hp w0) w0 w cs):Below w0.heap.size w0 w:=by
 obtain ⟨⟨h1,h2,h3,h4⟩,h5,-⟩:=h
 refine ⟨h1,h2,h3,h4,fun b hb=>?_⟩
 have e:w0.heap[b]? =some w0.heap[b]:=Array.getElem?_eq_getElem hb
 rw[e];exact h5 b _ e
end D
namespace D
open Go.RowKit
theorem bQ {n:Int} (h1: -9223372036854775808<=n) (h2:n<=9223372036854775807):IntKind.i64.wrap n=n:=by
 simp only[IntKind.wrap,IntKind.bits,IntKind.signed,Bool.true_and]
 split <;> rename_i h <;> simp at h <;> omega
theorem ak {i:Nat} (h:i<9223372036854775807):IntKind.i64.wrap ((i:Int)+1)=((i+1:Nat):Int):=by
 rw[bQ (by omega) (by omega)];rfl
theorem aW {α:Type} {xs:List α} {i:Nat} (h:i<xs.length):aR xs (i:Int)=some (xs[i]):=by
 unfold aR
 rw[if_pos (Int.natCast_nonneg _)]
 simp[h]
theorem eN {i n:Nat} (h:i<n):decide ((i:Int)<(n:Int))=true:=by simp[h]
theorem eU {n:Nat} :decide ((n:Int)<(n:Int))=false:=by simp
theorem np (k:Nat) (h:k<=9223372036854775807):k<aP:=by unfold aP;omega
theorem U9 {α:Type} {b n:Nat} {z:α} (h:n*b<=140737488355328):mkI b (n:Int) z=some (List.replicate n z):=by
 unfold mkI
 rw[if_pos ⟨Int.natCast_nonneg _,by simpa using h⟩];simp
theorem CW {R S:Type} {f:S->Option (Out R S)} (inv:Nat->S) (N:Nat) (h: ∀i,i<N->f (inv i)=some (.nxt (inv (i+1)))): ∀(m i k:Nat),i+m=N->aC f (k+m) (inv i)=aC f k (inv N)
 | 0,i,k,e=>by rw[show i=N by omega];rfl
 | m+1,i,k,e=>by
  rw[<-Nat.add_assoc,aC,h i (by omega)]
  exact CW inv N h m (i+1) k (by omega)
theorem Ld {R S:Type} {f:S->Option (Out R S)} (inv:Nat->S) (N:Nat) {s:S} (h: ∀i,i<N->f (inv i)=some (.nxt (inv (i+1)))) (he:f (inv N)=some (.brk s)) (hN:N<aP):aC f aP (inv 0)=some (.brk s):=by
 have e:aP=(aP - N - 1)+1+N:=by omega
 rw[e,CW inv N h N 0 _ (by omega),aC,he]
theorem XF {α:Type} [Data α] {f:Int×Int->Option Yq8 } (xs:List α)
  (hstep: ∀i (h:i<xs.length) l,0<=l->l<=1048576-> ∃r,f (l,(i:Int))=some (if r<0 then .ret (-1) else .nxt (r,((i+1:Nat):Int)))/\(r<0\/(0<=r/\r<=l/\Data.sm xs[i])))
  (hend: ∀l,f (l,(xs.length:Int))=some (.brk (l,(xs.length:Int)))): ∀(m i k:Nat) (l:Int),i+m=xs.length->m<k->0<=l->l<=1048576->
   aC f k (l,(i:Int))=some (.ret (-1))\/ ∃r,aC f k (l,(i:Int))=some (.brk (r,(xs.length:Int)))/\0<=r/\r<=l/\ ∀j (h:j<xs.length),i<=j->Data.sm xs[j]
 | 0,i,k,l,e,hk,h0,h1=>by
  obtain ⟨k,rfl⟩: ∃q,k=q+1:=⟨k - 1,by omega⟩
  obtain rfl:i=xs.length:=by omega
  exact .inr ⟨l,by rw[aC,hend],h0,Int.le_refl _,fun j hj hi=>by omega⟩
 | m+1,i,k,l,e,hk,h0,h1=>by
  obtain ⟨k,rfl⟩: ∃q,k=q+1:=⟨k - 1,by omega⟩
  obtain ⟨r,e1,e2⟩:=hstep i (by omega) l h0 h1
  rw[aC,e1]
  rcases e2 with e2 | ⟨e2,e3,e4⟩
  ·rw[if_pos e2];exact .inl rfl
  ·rw[if_neg (by omega)]
   rcases XF xs hstep hend m (i+1) k r (by omega) (by omega) e2 (by omega) with h | ⟨q,g1,g2,g3,g4⟩
   ·exact .inl h
   ·refine .inr ⟨q,g1,g2,by omega,fun j hj hi=>?_⟩
    by_cases hji:j=i
    ·subst hji;exact e4
    ·exact g4 j hj (by omega)
theorem szL {α:Type} [Data α] {f:Int×Int->Option Yq8 } (xs:List α) {l:Int} (hN:xs.length<=9223372036854775807)
  (hstep: ∀i (h:i<xs.length) l,0<=l->l<=1048576-> ∃r,f (l,(i:Int))=some (if r<0 then .ret (-1) else .nxt (r,((i+1:Nat):Int)))/\(r<0\/(0<=r/\r<=l/\Data.sm xs[i])))
  (hend: ∀l,f (l,(xs.length:Int))=some (.brk (l,(xs.length:Int)))) (h0:0<=l) (h1:l<=1048576) :
  ∃r,(if decide (IntKind.i64.wrap (l - (xs.length:Int))<0) then (some (-1)) else (aO (aC f aP (IntKind.i64.wrap (l - (xs.length:Int)),0)) (fun r=>some r) (fun s4=>some s4.1)))=some r/\(r<0\/(0<=r/\r<=l/\Data.sm xs)):=by
 rw[bQ (by omega) (by omega)]
 by_cases h:l - (xs.length:Int)<0
 ·exact ⟨-1,by rw[if_pos (decide_eq_true h)],.inl (by decide)⟩
 ·rw[if_neg (by simpa using h)]
  rcases XF xs hstep hend xs.length 0 aP (l - xs.length) (by omega) (np _ hN) (by omega) (by omega) with e | ⟨r,e,g1,g2,g3⟩
  ·exact ⟨-1,by rw[show ((0:Int))=((0:Nat):Int) from rfl,e];rfl,.inl (by decide)⟩
  ·refine ⟨r,by rw[show ((0:Int))=((0:Nat):Int) from rfl,e];rfl,.inr ⟨g1,by omega,by omega,fun x hx=>?_⟩⟩
   obtain ⟨j,hj,rfl⟩:=List.getElem_of_mem hx
   exact g3 j hj (Nat.zero_le _)
theorem WV {α:Type} [DecidableEq α] {f:Int->Option (Out Bool Int)} (xs ys:List α) (hl:xs.length=ys.length)
  (hstep: ∀i (h:i<xs.length) (h':i<ys.length),f (i:Int)=some (if xs[i] =ys[i] then .nxt ((i+1:Nat):Int) else .ret false)) (hend:f (xs.length:Int)=some (.brk (xs.length:Int))): ∀(m i k:Nat),i+m=xs.length->m<k->
   aC f k (i:Int)=some (if xs.drop i=ys.drop i then .brk (xs.length:Int) else .ret false)
 | 0,i,k,e,hk=>by
  obtain ⟨k,rfl⟩: ∃q,k=q+1:=⟨k - 1,by omega⟩
  obtain rfl:i=xs.length:=by omega
  rw[aC,hend,List.drop_of_length_le (aq _),List.drop_of_length_le (by omega),if_pos rfl]
 | m+1,i,k,e,hk=>by
  obtain ⟨k,rfl⟩: ∃q,k=q+1:=⟨k - 1,by omega⟩
  have hi:i<xs.length:=by omega
  have hi':i<ys.length:=by omega
  have d1:=List.drop_eq_getElem_cons hi
  have d2:=List.drop_eq_getElem_cons hi'
  rw[aC,hstep i hi hi',d1,d2]
  by_cases h:xs[i] =ys[i]
  ·rw[if_pos h]
   simp only
   rw[WV xs ys hl hstep hend m (i+1) k (by omega) (by omega)]
   simp only[List.cons.injEq,h,true_and]
  ·rw[if_neg h]
   simp only[List.cons.injEq,h,false_and,if_false]
theorem eqL {α:Type} [DecidableEq α] {f:Int->Option (Out Bool Int)} (xs ys:List α) (hN:xs.length<=9223372036854775807)
  (hstep: ∀i (h:i<xs.length) (h':i<ys.length),f (i:Int)=some (if xs[i] =ys[i] then .nxt ((i+1:Nat):Int) else .ret false)) (hend:f (xs.length:Int)=some (.brk (xs.length:Int))) :
  (if (xs.length:Int) !=(ys.length:Int) then (some false) else (aO (aC f aP 0) (fun r=>some r) (fun s4=>some true)))=some (decide (xs=ys)):=by
 by_cases hl:xs.length=ys.length
 ·rw[if_neg (by rw[hl];simp),show ((0:Int))=((0:Nat):Int) from rfl,WV xs ys hl hstep hend xs.length 0 aP (by omega) (np _ hN)]
  by_cases h:xs=ys
  ·subst h;simp[aO]
  ·simp[aO,h]
 ·have:xs≠ys:=fun e=>hl (by rw[e])
  rw[if_pos (by simp;omega)];simp[this]
theorem eqB {α:Type} [DecidableEq α] {f:Int->Option (Out Bool Int)} {K:Option Bool} (xs ys:List α) (hN:xs.length<=9223372036854775807) (hl:xs.length=ys.length)
  (hstep: ∀i (h:i<xs.length) (h':i<ys.length),f (i:Int)=some (if xs[i] =ys[i] then .nxt ((i+1:Nat):Int) else .ret false)) (hend:f (xs.length:Int)=some (.brk (xs.length:Int))) :
  aO (aC f aP 0) (fun r=>some r) (fun s4=>K)=(if xs=ys then K else some false):=by
 rw[show ((0:Int))=((0:Nat):Int) from rfl,WV xs ys hl hstep hend xs.length 0 aP (by omega) (np _ hN)]
 by_cases h:xs=ys
 ·subst h;simp[aO]
 ·simp[aO,h]
theorem Va {f:Int->Option (Out Int Int)} (xs ys:List Int)
  (hstep: ∀i (h:i<xs.length) (h':i<ys.length),f (i:Int)=some (if xs[i] < ys[i] then .ret (-1) else if xs[i] > ys[i] then .ret 1 else .nxt ((i+1:Nat):Int))) (hend: ∀i,xs.length<=i\/ys.length<=i->f (i:Int)=some (.brk (i:Int))): ∀(m i k:Nat),i+m=xs.length->m<k->
   (∃r,aC f k (i:Int)=some (.ret r)/\r≠0/\xs≠ys)\/ ∃s,aC f k (i:Int)=some (.brk s)/\(xs.length=ys.length->xs.drop i=ys.drop i)
 | 0,i,k,e,hk=>by
  obtain ⟨k,rfl⟩: ∃q,k=q+1:=⟨k - 1,by omega⟩
  exact .inr ⟨_,by rw[aC,hend i (.inl (by omega))],fun h=>by rw[List.drop_of_length_le (by omega),List.drop_of_length_le (by omega)]⟩
 | m+1,i,k,e,hk=>by
  obtain ⟨k,rfl⟩: ∃q,k=q+1:=⟨k - 1,by omega⟩
  have hi:i<xs.length:=by omega
  by_cases hi':i<ys.length
  ·have hne: ∀h:xs[i] ≠ys[i],xs≠ys:=fun h e=>h (by subst e;rfl)
   rw[aC,hstep i hi hi']
   by_cases h1:xs[i] < ys[i]
   ·rw[if_pos h1];exact .inl ⟨-1,rfl,by decide,hne (by omega)⟩
   ·rw[if_neg h1]
    by_cases h2:xs[i] > ys[i]
    ·rw[if_pos h2];exact .inl ⟨1,rfl,by decide,hne (by omega)⟩
    ·rw[if_neg h2]
     rcases Va xs ys hstep hend m (i+1) k (by omega) (by omega) with h | ⟨s,g1,g2⟩
     ·exact .inl h
     ·refine .inr ⟨s,g1,fun hl=>?_⟩
      have h3:xs[i] =ys[i]:=by omega
      rw[List.drop_eq_getElem_cons hi,List.drop_eq_getElem_cons hi',g2 hl,h3]
  ·exact .inr ⟨_,by rw[aC,hend i (.inr (by omega))],fun h=>by omega⟩
instance:LawfulBEq ByteArray where
 eq_of_beq {a b} h:=ByteArray.ext (eq_of_beq (show (a.data==b.data)=true from h))
 rfl {a}:=beq_self_eq_true a.data
theorem kl {α β:Type} (p:α×β):(p.1,p.2)=p:=rfl
theorem km {α:Type} [Data α] {xs:List α} (h:Data.sm xs):xs.length<=1048576/\ ∀x,x∈xs->Data.sm x:=h
end D
namespace D
open Go.RowKit
theorem b9 {R S:Type} {f:S->Option (Out R S)} (Inv:Nat->S->Prop) (Q:Out R S->Prop) (N:Nat)
  (h: ∀i s,i<=N->Inv i s->(i<N/\ ∃s',f s=some (.nxt s')/\Inv (i+1) s')\/ ∃o,f s=some o/\(∀s',o≠ .nxt s')/\Q o) {s:S} (h0:Inv 0 s) (hN:N<aP): ∃o,aC f aP s=some o/\Q o:=by
 have key: ∀(k i:Nat) (s:S),i<=N->N<i+k->Inv i s-> ∃o,aC f k s=some o/\Q o:=by
  intro k
  induction k with
  | zero=>intro i s h1 h2;omega
  | succ k ih =>
   intro i s h1 h2 hI
   rcases h i s h1 hI with ⟨hi,s',e,hI'⟩ | ⟨o,e,hn,hq⟩
   ·obtain ⟨o,e',hq⟩:=ih (i+1) s' (by omega) (by omega) hI'
    exact ⟨o,by rw[aC,e];exact e',hq⟩
   ·refine ⟨o,?_,hq⟩
    rw[aC,e]
    cases o with
    | nxt s'=>exact absurd rfl (hn s')
    | brk s'=>rfl
    | ret r=>rfl
 exact key aP 0 s (by omega) (by omega) h0
theorem dD {R S:Type} {f:S->Option (Out R S)} (Inv:Nat->S->Prop) (N:Nat) (h: ∀i s,i<N->Inv i s-> ∃s',f s=some (.nxt s')/\Inv (i+1) s') (he: ∀s,Inv N s->f s=some (.brk s)) {s:S} (h0:Inv 0 s) (hN:N<aP): ∃s',aC f aP s=some (.brk s')/\Inv N s':=by
 obtain ⟨o,e,s',rfl,h⟩:=b9 (f:=f) Inv (fun o=> ∃s',o= .brk s'/\Inv N s') N (fun i s hi hI=>by
  by_cases h1:i<N
  ·exact .inl ⟨h1,h i s h1 hI⟩
  ·obtain rfl:i=N:=by omega
   exact .inr ⟨_,he s hI,(fun s' e=>by cases e),s,rfl,hI⟩) h0 hN
 exact ⟨s',e,h⟩
theorem aL {R S:Type} {f:S->Option (Out R S)} (st:Nat->S) (N:Nat) (h: ∀i,i<N->f (st i)=some (.nxt (st (i+1)))) (he:f (st N)=some (.brk (st N))) (hN:N<aP):aC f aP (st 0)=some (.brk (st N)):=Ld st N h he hN
theorem gD {k:Nat} (h:k<=9223372036854775807):k<aP:=np k h
theorem tJ {i:Nat} (h:i<=9223372036854775807):IntKind.i64.wrap (i:Int)=(i:Int):=bQ (by omega) (by omega)
theorem kV {i:Nat} (h:i<=9223372036854775807):IntKind.i64.wrap ((i:Int) - 1)=(i:Int) - 1:=bQ (by omega) (by omega)
theorem aJ {α:Type} {b:Nat} {xs ys:List α} (h:(xs.length+ys.length)*b<=140737488355328):dm b xs ys=some (xs++ys):=by unfold dm;rw[if_pos h]
theorem SI {i n:Nat} :decide ((i:Int)<(n:Int))=decide (i<n):=by simp
theorem bK {R S T:Type} {x:Option (Out R S)} {r:R} {kr:R->Option T} {k:S->Option T} (h:x=some (.ret r)):aO x kr k=kr r:=by rw[h];rfl
theorem ah {R S T:Type} {x:Option (Out R S)} {s:S} {kr:R->Option T} {k:S->Option T} (h:x=some (.brk s)):aO x kr k=k s:=by rw[h];rfl
def nth {α:Type} [Inhabited α] (xs:List α) (i:Int):α:=xs.getD i.toNat default
section
variable {α:Type} [Inhabited α] {xs ys:List α}
theorem aF {i:Int} (h0:0<=i) (h1:i<xs.length):aR xs i=some (nth xs i):=by
 unfold aR nth
 rw[if_pos h0]
 have:i.toNat<xs.length:=by omega
 simp[List.getD_eq_getElem?_getD,this]
theorem bM {i:Nat} (h:i<xs.length):nth xs (i:Int)=xs[i]:=by simp[nth,List.getD_eq_getElem?_getD,h]
theorem bB {i:Int} (h0:0<=i) (h1:i<xs.length):nth xs i∈xs:=by
 have:i.toNat<xs.length:=by omega
 have e:nth xs i=xs[i.toNat]:=by simp[nth,List.getD_eq_getElem?_getD,this]
 rw[e];exact List.getElem_mem this
theorem jR {i:Int} (h0:0<=i) (h1:i<xs.length):nth (xs++ys) i=nth xs i:=by
 have:i.toNat<xs.length:=by omega
 simp[nth,List.getD_eq_getElem?_getD,List.getElem?_append_left this]
theorem SJ {β:Type} [Inhabited β] {f:α->β} {i:Int} (h0:0<=i) (h1:i<xs.length):nth (xs.map f) i=f (nth xs i):=by
 have:i.toNat<xs.length:=by omega
 simp[nth,List.getD_eq_getElem?_getD,this]
theorem xO {x:α} (h:x∈xs): ∃i:Nat,i<xs.length/\nth xs (i:Int)=x:=by
 obtain ⟨i,hi,rfl⟩:=List.getElem_of_mem h
 exact ⟨i,hi,bM hi⟩
theorem eO {i:Int} {x:α} (h0:0<=i) (h1:i<xs.length):nth (xs.set i.toNat x) i=x:=by
 have:i.toNat<xs.length:=by omega
 simp[nth,List.getD_eq_getElem?_getD,this]
theorem fI {i j:Int} {x:α} (h0:0<=i) (hj:0<=j) (h:i≠j):nth (xs.set i.toNat x) j=nth xs j:=by
 have:i.toNat≠j.toNat:=by omega
 simp[nth,List.getD_eq_getElem?_getD,List.getElem?_set_ne this]
theorem SK (h:xs.length=ys.length) (k: ∀i:Nat,i<xs.length->nth xs (i:Int)=nth ys (i:Int)):xs=ys:=by
 refine List.ext_getElem h fun i h1 h2=>?_
 have:=k i h1
 rwa [bM h1,bM h2] at this
end
section
variable {κ:Type} [DecidableEq κ]
def nbL (l:List κ):Option κ->List κ
 | none=>l
 | some x=>if x∈l then l else l++ [x]
def nbI (l:List κ):Option κ->Int
 | none=> -1
 | some x=>(l.idxOf x:Int)
def nbS (l:List κ) (os:List (Option κ)):List κ:=os.foldl nbL l
def nbR (l:List κ):List (Option κ)->List Int
 | [] =>[]
 | o::os=>nbI l o::nbR (nbL l o) os
theorem tK (l:List κ) (os:List (Option κ)) (o:Option κ):nbS l (os++ [o])=nbL (nbS l os) o:=by simp[nbS]
theorem qY: ∀(l:List κ) (os:List (Option κ)) (o:Option κ),nbR l (os++ [o])=nbR l os++ [nbI (nbS l os) o]
 | l,[],o=>rfl
 | l,p::os,o=>by
  show nbI l p::nbR (nbL l p) (os++ [o])=nbI l p::nbR (nbL l p) os++ [nbI (nbS (nbL l p) os) o]
  rw[qY (nbL l p) os o];rfl
theorem eG: ∀(l:List κ) (os:List (Option κ)),(nbR l os).length=os.length
 | l,[] =>rfl
 | l,o::os=>by show (nbR (nbL l o) os).length+1=_;rw[eG];rfl
theorem Ib (l : List κ) (o : Option κ) : l <+: nbL l o := by
  cases o with
  | none => exact List.prefix_refl l
  | some x => unfold nbL; simp only; split
              · exact List.prefix_refl l
              · exact List.prefix_append l [x]
theorem ko: ∀(l:List κ) (os:List (Option κ)),l <+:nbS l os
 | l,[] =>List.prefix_refl l
 | l,o::os=>(Ib l o).trans (ko (nbL l o) os)
theorem Le {l : List κ} {o : Option κ} (h : l.Nodup) : (nbL l o).Nodup := by
  cases o with
  | none => exact h
  | some x => unfold nbL; simp only; split
              · exact h
              · rename_i hx; exact List.nodup_append.2 ⟨h, by simp, by rintro a ha b hb rfl; simp at hb; exact hx (hb ▸ ha)⟩
theorem qp: ∀ {l:List κ} {os:List (Option κ)},l.Nodup->(nbS l os).Nodup
 | l,[],h=>h
 | l,o::os,h=>qp (l:=nbL l o) (os:=os) (Le h)
theorem Lf {l : List κ} {o : Option κ} {x : κ} : x ∈ nbL l o ↔ x ∈ l \/ o = some x := by
  cases o with
  | none => simp [nbL]
  | some y => unfold nbL; simp only; split
              · rename_i h; constructor
                · exact .inl
                · rintro (h' | h')
                  · exact h'
                  · simp at h'; exact h' ▸ h
              · simp; exact or_congr Iff.rfl eq_comm
theorem sv: ∀ {l:List κ} {os:List (Option κ)} {x:κ},x∈nbS l os↔x∈l\/some x∈os
 | l,[],x=>by simp[nbS]
 | l,o::os,x=>by
  show x∈nbS (nbL l o) os↔_
  rw[sv,Lf,List.mem_cons,or_assoc]
  exact or_congr Iff.rfl (or_congr eq_comm Iff.rfl)
theorem lz {l:List κ} {x:κ} (h:x∈l):nbL l (some x)=l:=by simp[nbL,h]
theorem kp {l:List κ} {x:κ} (h:x∉l):nbL l (some x)=l++ [x]:=by simp[nbL,h]
theorem oy {l:List κ} {x:κ} (h:x∉l):l.idxOf x=l.length:=List.idxOf_eq_length h
def bfS (nx:κ->List (Option κ)) (first:κ):Nat->List κ
 | 0=>[first]
 | i+1=>match (bfS nx first i)[i]? with
  | some x=>nbS (bfS nx first i) (nx x)
  | none=>bfS nx first i
def bfR (nx:κ->List (Option κ)) (first:κ):Nat->List (List Int)
 | 0=>[]
 | i+1=>bfR nx first i++(match (bfS nx first i)[i]? with
  | some x=>[nbR (bfS nx first i) (nx x)]
  | none=>[])
variable {nx:κ->List (Option κ)} {first:κ}
theorem vZ {i:Nat} (h:i<(bfS nx first i).length):bfS nx first (i+1)=nbS (bfS nx first i) (nx ((bfS nx first i)[i])):=by
 rw[bfS,List.getElem?_eq_getElem h]
theorem qZ {i:Nat} (h:i<(bfS nx first i).length):bfR nx first (i+1)=bfR nx first i++ [nbR (bfS nx first i) (nx ((bfS nx first i)[i]))]:=by
 rw[bfR,List.getElem?_eq_getElem h]
theorem bH (i:Nat):bfS nx first i <+:bfS nx first (i+1):=by
 rw[bfS]
 split
 ·exact ko _ _
 ·exact List.prefix_refl _
theorem oz {i j:Nat} (h:i<=j):bfS nx first i <+:bfS nx first j:=by
 induction h with
 | refl=>exact List.prefix_refl _
 | step _ ih=>exact ih.trans (bH _)
theorem mI: ∀i,(bfS nx first i).Nodup
 | 0=>by simp[bfS]
 | i+1=>by
  rw[bfS]
  split
  ·exact qp (mI i)
  ·exact mI i
theorem jS {G:κ->Prop} (h0:G first) (h: ∀x,G x-> ∀y,some y∈nx x->G y): ∀i,∀x∈bfS nx first i,G x
 | 0=>by simp[bfS];exact h0
 | i+1=>by
  rw[bfS]
  split
  ·rename_i y hy
   intro x hx
   rcases sv.1 hx with hx | hx
   ·exact jS h0 h i x hx
   ·exact h y (jS h0 h i y (List.mem_of_getElem? hy)) x hx
  ·exact jS h0 h i
theorem tL (i:Nat):(bfS nx first i)[0]? =some first:=by
 obtain ⟨t,ht⟩:=oz (nx:=nx) (first:=first) (Nat.zero_le i)
 rw[<-ht];rfl
theorem iE: ∀ {i:Nat},(∀j,j<i->j<(bfS nx first j).length)->(bfR nx first i).length=i
 | 0,_=>rfl
 | i+1,h=>by rw[qZ (h i (by omega)),af,iE fun j hj=>h j (by omega)];rfl
def bfE (nx:κ->List (Option κ)) (first:κ) (N:Nat):Prop:=N=(bfS nx first N).length/\ ∀i,i<N->i<(bfS nx first i).length
theorem Qj {B:Nat} (hB: ∀i,(bfS nx first i).length<=B): ∃N,N<=B/\bfE nx first N:=by
 have key: ∀m i,i+m=B->(∀j,j<i->j<(bfS nx first j).length)-> ∃N,N<=B/\bfE nx first N:=by
  intro m
  induction m with
  | zero =>
   intro i hi hj
   have h1:=hB i
   have h2:i<=(bfS nx first i).length:=by
    cases i with
    | zero=>omega
    | succ i =>
     have:=hj i (by omega)
     have hp:=(bH (nx:=nx) (first:=first) i).length_le
     omega
   exact ⟨i,by omega,by omega,hj⟩
  | succ m ih =>
   intro i hi hj
   by_cases h:i<(bfS nx first i).length
   ·exact ih (i+1) (by omega) fun j hj'=>by
     by_cases e:j=i
     ·subst e;exact h
     ·exact hj j (by omega)
   ·have h2:i<=(bfS nx first i).length:=by
     cases i with
     | zero=>omega
     | succ i =>
      have:=hj i (by omega)
      have hp:=(bH (nx:=nx) (first:=first) i).length_le
      omega
    exact ⟨i,by omega,by omega,hj⟩
 exact key B 0 (by omega) (by omega)
theorem OL {N M:Nat} (h:bfE nx first N) (k:bfE nx first M):N=M:=by
 rcases Nat.lt_trichotomy N M with e | e | e
 ·have:=k.2 N e;have:=h.1;omega
 ·exact e
 ·have:=h.2 M e;have:=k.1;omega
end
end D
namespace D
abbrev Pr:=Int×Int
def ltP (a b:Pr):Prop:=a.1<b.1\/a.1=b.1/\a.2<b.2
instance (a b:Pr):Decidable (ltP a b):=inferInstanceAs (Decidable (_\/_))
theorem ED (a:Pr): ¬ltP a a:=by unfold ltP;omega
theorem CX {a b c:Pr} (h:ltP a b) (k:ltP b c):ltP a c:=by unfold ltP at *;omega
theorem Lh {a b:Pr} (h:ltP a b): ¬ltP b a:=by unfold ltP at *;omega
theorem EE (a b:Pr):ltP a b\/a=b\/ltP b a:=by
 unfold ltP
 by_cases h:a=b
 ·exact .inr (.inl h)
 ·have: ¬(a.1=b.1/\a.2=b.2):=fun e=>h (Prod.ext e.1 e.2)
  omega
abbrev Str (l:List Pr):Prop:=l.Pairwise ltP
theorem tM: ∀ {l m:List Pr},Str l->Str m->(∀x,x∈l↔x∈m)->l=m
 | [],[],_,_,_=>rfl
 | [],b::m,_,_,h=>absurd ((h b).2 (List.mem_cons_self ..)) (by simp)
 | a::l,[],_,_,h=>absurd ((h a).1 (List.mem_cons_self ..)) (by simp)
 | a::l,b::m,hl,hm,h=>by
  obtain ⟨l1,l2⟩:=List.pairwise_cons.1 hl
  obtain ⟨m1,m2⟩:=List.pairwise_cons.1 hm
  have hab:a=b:=by
   rcases ay ((h a).1 (List.mem_cons_self ..)) with e | e
   ·exact e
   ·rcases ay ((h b).2 (List.mem_cons_self ..)) with f | f
    ·exact f.symm
    ·exact absurd (m1 a e) (Lh (l1 b f))
  subst hab
  rw[tM l2 m2 fun x=>?_]
  constructor
  ·intro hx
   rcases ay ((h x).1 (aZ _ hx)) with e | e
   ·subst e;exact absurd (l1 x hx) (ED x)
   ·exact e
  ·intro hx
   rcases ay ((h x).2 (aZ _ hx)) with e | e
   ·subst e;exact absurd (m1 x hx) (ED x)
   ·exact e
def ahd (p:Pr):List Pr->Nat
 | [] =>0
 | a::l=>if ltP a p then ahd p l+1 else 0
theorem Li (p:Pr): ∀l:List Pr,ahd p l<=l.length
 | [] =>aq _
 | a::l=>by
  unfold ahd
  split
  ·have:=Li p l;rw[al];omega
  ·exact Nat.zero_le _
theorem Qk (p:Pr): ∀(l:List Pr) (i:Nat),i<ahd p l-> ∃x,l[i]? =some x/\ltP x p
 | [],i,h=>by simp[ahd] at h
 | a::l,i,h=>by
  unfold ahd at h
  split at h
  ·rename_i ha
   cases i with
   | zero=>exact ⟨a,rfl,ha⟩
   | succ i =>
    obtain ⟨x,h1,h2⟩:=Qk p l i (by omega)
    exact ⟨x,by simpa using h1,h2⟩
  ·omega
theorem Ql (p:Pr): ∀(l:List Pr) x,l[ahd p l]? =some x-> ¬ltP x p
 | [],x,h=>by simp at h
 | a::l,x,h=>by
  unfold ahd at h
  split at h
  ·exact Ql p l x (by simpa using h)
  ·rename_i ha
   simp at h
   subst h;exact ha
def put (l:List Pr) (p:Pr):List Pr:=if l[ahd p l]? =some p then l else l.take (ahd p l)++p::l.drop (ahd p l)
theorem Gs (a:Pr) (l:List Pr) (p:Pr):put (a::l) p=if ltP a p then a::put l p else if a=p then a::l else p::a::l:=by
 unfold put
 by_cases h:ltP a p
 ·have e:ahd p (a::l)=ahd p l+1:=by rw[ahd,if_pos h]
  rw[e,if_pos h]
  by_cases k:l[ahd p l]? =some p
  ·rw[if_pos (by simpa using k),if_pos k]
  ·rw[if_neg (by simpa using k),if_neg k];rfl
 ·have e:ahd p (a::l)=0:=by rw[ahd,if_neg h]
  rw[e,if_neg h]
  by_cases k:a=p
  ·rw[if_pos (by simp[k]),if_pos k]
  ·rw[if_neg (by simpa using k),if_neg k];rfl
theorem EF {x p:Pr} : ∀l:List Pr,x∈put l p↔x=p\/x∈l
 | [] =>by simp[put,ahd]
 | a::l=>by
  rw[Gs]
  split
  ·rw[List.mem_cons,EF l,List.mem_cons];grind
  ·split
   ·rename_i e;subst e;rw[List.mem_cons];grind
   ·rw[List.mem_cons]
theorem Lj {p:Pr} : ∀ {l:List Pr},Str l->Str (put l p)
 | [],_=>by simp[put,ahd]
 | a::l,h=>by
  obtain ⟨h1,h2⟩:=List.pairwise_cons.1 h
  rw[Gs]
  split
  ·rename_i ha
   refine List.pairwise_cons.2 ⟨fun x hx=>?_,Lj h2⟩
   rcases (EF l).1 hx with rfl | hx
   ·exact ha
   ·exact h1 x hx
  ·rename_i ha
   split
   ·exact h
   ·rename_i hn
    have hp:ltP p a:=by
     rcases EE p a with c | c | c
     ·exact c
     ·exact absurd c.symm hn
     ·exact absurd c ha
    refine List.pairwise_cons.2 ⟨fun x hx=>?_,h⟩
    rcases ay hx with rfl | hx
    ·exact hp
    ·exact CX hp (h1 x hx)
def puts (l m:List Pr):List Pr:=m.foldl put l
theorem nq: ∀ {m l:List Pr},Str l->Str (puts l m)
 | [],l,h=>h
 | p::m,l,h=>nq (m:=m) (Lj h)
theorem ji {x:Pr} : ∀ {m l:List Pr},x∈puts l m↔x∈l\/x∈m
 | [],l=>by simp[puts]
 | p::m,l=>by
  show x∈puts (put l p) m↔_
  rw[ji,EF,List.mem_cons];grind
def nub:List Pr->List Pr
 | [] =>[]
 | [a] =>[a]
 | a::b::l=>if a=b then nub (b::l) else a::nub (b::l)
theorem Bb {x:Pr} : ∀ {l:List Pr},x∈nub l↔x∈l
 | [] =>Iff.rfl
 | [a] =>Iff.rfl
 | a::b::l=>by
  rw[nub]
  split
  ·rename_i e;subst e;rw[Bb];simp
  ·rw[List.mem_cons,Bb,List.mem_cons (l:=b::l)]
theorem EG: ∀ {l:List Pr},l.Pairwise (fun a b=> ¬ltP b a)->Str (nub l)
 | [],_=>List.Pairwise.nil
 | [a],_=>by simp[nub]
 | a::b::l,h=>by
  obtain ⟨h1,h2⟩:=List.pairwise_cons.1 h
  rw[nub]
  split
  ·exact EG h2
  ·rename_i hn
   refine List.pairwise_cons.2 ⟨fun x hx=>?_,EG h2⟩
   have hab:ltP a b:=by
    rcases EE a b with c | c | c
    ·exact c
    ·exact absurd c hn
    ·exact absurd c (h1 b (List.mem_cons_self ..))
   rcases ay (Bb.1 hx) with rfl | hx
   ·exact hab
   ·rcases EE b x with c | c | c
    ·exact CX hab c
    ·subst c;exact hab
    ·exact absurd c ((List.pairwise_cons.1 h2).1 x hx)
end D
namespace D
open Go.RowKit
theorem Lk {α R:Type} {f:Int->Option (Out R Int)} (l:List α) (b:α->Bool) (r:Nat->R) (hN:l.length<=9223372036854775807) (h: ∀i (hi:i<l.length),f (i:Int)=some (if b l[i] then .ret (r i) else .nxt ((i+1:Nat):Int))) (he:f (l.length:Int)=some (.brk (l.length:Int))) :
  (∃(i:Nat) (hi:i<l.length),b l[i] =true/\(∀j (hj:j<i),b (l[j]'(by omega))=false)/\aC f aP 0=some (.ret (r i)))\/((∀x,x∈l->b x=false)/\aC f aP 0=some (.brk (l.length:Int))):=by
 obtain ⟨o,e,hQ⟩:=b9 (f:=f) (fun i s=>s=(i:Int)/\ ∀j (hj:j<l.length),j<i->b l[j] =false) (fun o=>(∃(i:Nat) (hi:i<l.length),b l[i] =true/\(∀j (hj:j<i),b (l[j]'(by omega))=false)/\o= .ret (r i))\/((∀x,x∈l->b x=false)/\o= .brk (l.length:Int))) l.length (fun i s hi hI=>by
  obtain ⟨rfl,hI⟩:=hI
  by_cases h1:i<l.length
  ·cases hb:b l[i] with
   | true=>exact .inr ⟨_,by rw[h i h1,hb,if_pos rfl],fun s' hh=>by simp at hh,.inl ⟨i,h1,hb,fun j hj=>hI j (by omega) hj,by simp⟩⟩
   | false=>exact .inl ⟨h1,_,by rw[h i h1,hb,if_neg (by simp)],rfl,fun j hj hji=>by
     by_cases c:j=i
     ·subst c;exact hb
     ·exact hI j hj (by omega)⟩
  ·obtain rfl:i=l.length:=by omega
   exact .inr ⟨_,he,fun s' hh=>by simp at hh,.inr ⟨fun x hx=>by
    obtain ⟨j,hj,rfl⟩:=List.getElem_of_mem hx
    exact hI j hj hj,rfl⟩⟩) (s:=0) ⟨rfl,fun j hj h0=>by omega⟩ (np _ hN)
 rcases hQ with ⟨i,hi,h1,h2,rfl⟩ | ⟨h1,rfl⟩
 ·exact .inl ⟨i,hi,h1,h2,e⟩
 ·exact .inr ⟨h1,e⟩
section
variable {l m:List Pr} {p:Pr}
theorem XZ {a b:Pr} :((a.1==b.1)&&((a.2==b.2)&&true))=decide (a=b):=by
 rw[Bool.eq_iff_iff];simp[Prod.ext_iff]
theorem WW {a b:Pr} :(Bool.and.match_1 (fun (_:Bool)=>Bool) (a.1==b.1) (fun (_:Unit)=>false) (fun (_:Unit)=>Bool.and.match_1 (fun (_:Bool)=>Bool) (a.2==b.2) (fun (_:Unit)=>false) (fun (_:Unit)=>true)))=decide (a=b):=XZ
theorem Ll (a b:Pr):kh a b=some (decide (ltP a b)):=by
 unfold kh ltP
 by_cases h:a.1<b.1
 ·simp[h]
 ·by_cases k:a.1=b.1 <;> simp[h,k]
theorem SL (a b:Pr): ∃r:Int,fY a b=some r/\(0<=r↔ ¬ltP a b):=by
 unfold fY jM ltP
 by_cases k:a.1=b.1
 ·by_cases h:a.2<b.2
  ·exact ⟨-1,by simp[k,h],by simp[k,h]⟩
  ·by_cases h2:b.2<a.2
   ·exact ⟨1,by simp[k,h,h2],by simp[k,h]⟩
   ·exact ⟨0,by simp[k,h,h2],by simp[k,h]⟩
 ·by_cases h:a.1<b.1
  ·exact ⟨-1,by simp[k,h],by simp[k,h]⟩
  ·have h2:b.1<a.1:=by omega
   exact ⟨1,by simp[k,h,h2],by simp[k,h]⟩
theorem Bc:fL l=dJ l:=by
 unfold fL dJ
 have e:mu l=cC l:=by
  funext s
  unfold mu cC
  have hw:cq=bq:=rfl
  rw[hw]
  cases hg:aR l s with
  | none=>rfl
  | some x =>
   have hk: ∀y:Pr,((kh (y.1,y.2) (x.1,x.2)).bind fun r9=>if r9=true then some (Out.nxt (R:=Bool) (IntKind.i64.wrap (s+1))) else some (Out.ret false))=((fY (y.1,y.2) (x.1,x.2)).bind fun r9=>if decide (r9≥0)=true then some (Out.ret false) else some (Out.nxt (IntKind.i64.wrap (s+1)))):=fun y=>by
    rw[Ll]
    obtain ⟨r,e,h⟩:=SL (y.1,y.2) (x.1,x.2)
    rw[e]
    simp only[aa,kl] at h⊢
    by_cases c:ltP y x
    ·rw[if_pos (decide_eq_true c),if_neg (by simpa using fun q=>(h.1 q) c)]
    ·rw[if_neg (by simpa using c),if_pos (by simpa using h.2 c)]
   simp only[aa,hk]
 rw[e]
end
end D
namespace D
open Go.RowKit
theorem Lm (l:List Pr) (p:Pr):(put l p).length<=l.length+1:=by
 have:=Li p l
 unfold put
 split
 ·omega
 ·rw[af,aD,al,a8];omega
theorem nr: ∀(m l:List Pr),(puts l m).length<=l.length+m.length
 | [],l=>aq _
 | p::m,l=>by
  have h1:=nr m (put l p)
  have h2:=Lm l p
  show (puts (put l p) m).length<=_
  rw[al];omega
theorem tN (l m:List Pr) (p:Pr):puts l (m++ [p])=put (puts l m) p:=by simp[puts]
theorem EH (l:List Pr) (p:Pr) (hl:l.length<=1073741824):ix l p=some (put l p):=by
 have hk:=Li p l
 have e:aC (lL l p) aP 0=some (.brk ((ahd p l:Nat):Int)):=by
  obtain ⟨o,e,rfl⟩:=b9 (f:=lL l p) (fun i s=>s=(i:Int)) (fun o=>o= .brk ((ahd p l:Nat):Int)) (ahd p l) (fun i s hi hI=>by
   subst hI
   unfold lL
   by_cases h1:i<ahd p l
   ·obtain ⟨x,g1,g2⟩:=Qk p l i h1
    have hil:i<l.length:=by omega
    rw[List.getElem?_eq_getElem hil] at g1
    obtain rfl:=ae g1
    refine .inl ⟨h1,((i+1:Nat):Int),?_,rfl⟩
    rw[eN hil,if_pos rfl,aW hil]
    simp only[aa,Ll,kl]
    rw[if_pos (decide_eq_true g2),ak (by omega)]
   ·obtain rfl:i=ahd p l:=by omega
    refine .inr ⟨_,?_,fun s' hh=>(by simp at hh),rfl⟩
    by_cases hil:ahd p l<l.length
    ·have g:=Ql p l _ (List.getElem?_eq_getElem hil)
     rw[eN hil,if_pos rfl,aW hil]
     simp only[aa,Ll,kl]
     rw[if_neg (by simpa using g)]
    ·rw[if_neg (by simp;omega)]) (s:=0) rfl (np _ (by omega))
  exact e
 unfold ix
 rw[ah e]
 have c1:chk ((0:Int)<=((ahd p l:Nat):Int)/\((ahd p l:Nat):Int)<=(l.length:Int))=some ():=if_pos (by omega)
 have a1:dm 16 ([] :List Pr) ((l.take (ahd p l)).drop 0)=some (l.take (ahd p l)):=by
  rw[List.drop_zero,aJ (by simp only[az,aD];omega)];rfl
 have a2:dm 16 (l.take (ahd p l)) [p] =some (l.take (ahd p l)++ [p]):=aJ (by simp only[List.length_singleton,aD];omega)
 have a3:dm 16 (l.take (ahd p l)++ [p]) ((l.take l.length).drop (ahd p l))=some (l.take (ahd p l)++p::l.drop (ahd p l)):=by
  rw[List.take_of_length_le (aq _),aJ (by simp only[af,List.length_singleton,aD,a8];omega),aj];rfl
 simp only[c1,aa,Int.toNat_natCast,a1,a2,a3,kl]
 unfold put
 by_cases hil:ahd p l<l.length
 ·rw[eN hil,if_pos rfl,aW hil]
  simp only[aa,WW]
  rw[List.getElem?_eq_getElem hil]
  by_cases h:l[ahd p l] =p
  ·rw[if_pos (decide_eq_true h),if_pos (by rw[h])]
  ·rw[if_neg (by simpa using h),if_neg (by simpa using h)]
 ·rw[if_neg (by simp;omega),List.getElem?_eq_none (by omega),if_neg (by simp)]
theorem xP {a b:List Pr} (ha:a.length<=67108864) (hb:b.length<=67108864):gl a b=some (puts [] (a++b)):=by
 unfold gl
 obtain ⟨s1,e1,rfl⟩:=dD (f:=iz a) (fun i s=>s=(puts [] (a.take i),(i:Int))) a.length (fun i s hi hI=>by
  subst hI
  have hln:=nr (a.take i) []
  rw[aD] at hln
  refine ⟨_,?_,rfl⟩
  unfold iz
  rw[eN hi,if_pos rfl,aW hi]
  simp only[aa,kl]
  rw[EH _ _ (by simp only[az] at hln;omega)]
  simp only[aa]
  rw[ak (by omega),List.take_succ_eq_append_getElem hi,tN]) (fun s hI=>by
  subst hI
  unfold iz
  rw[eU];rfl) (s:=(([] :List Pr),0)) rfl (np _ (by omega))
 rw[ah e1,List.take_of_length_le (aq _)]
 obtain ⟨s2,e2,rfl⟩:=dD (f:=iB b) (fun i s=>s=(puts [] (a++b.take i),(i:Int))) b.length (fun i s hi hI=>by
  subst hI
  have hln:=nr (a++b.take i) []
  rw[af,aD] at hln
  refine ⟨_,?_,rfl⟩
  unfold iB
  rw[eN hi,if_pos rfl,aW hi]
  simp only[aa,kl]
  rw[EH _ _ (by simp only[az] at hln;omega)]
  simp only[aa]
  rw[ak (by omega),List.take_succ_eq_append_getElem hi,<-aj,tN]) (fun s hI=>by
  subst hI
  unfold iB
  rw[eU];rfl) (s:=(puts [] a,0)) (by simp) (np _ (by omega))
 rw[ah e2,List.take_of_length_le (aq _)]
end D
namespace D
open Go.RowKit
theorem uS {c:Prop} [Decidable c] (h:c):chk c=some ():=if_pos h
theorem zL {α:Type} {xs:List α} {i n:Nat} {z:α} (h:i<=xs.length):(pF xs i n z).take i=xs.take i:=by
 unfold pF
 rw[List.take_append_of_le_length (by rw[aD];omega),List.take_take,Nat.min_self]
theorem CY {α:Type} {xs:List α} {i:Nat} {z:α} (h:i<=xs.length):(pF xs i xs.length z).length=xs.length:=vk h (aq _)
theorem Gt {α:Type} {ys:List α} {i:Nat} {x:α} (h:i<ys.length):(ys.set i x).take (i+1)=ys.take i++ [x]:=by
 rw[List.take_succ_eq_append_getElem (by simpa using h)]
 simp[List.take_set_of_le]
theorem set_drop {α:Type} {ys:List α} {i j:Nat} {x:α} (h:i<j):(ys.set i x).drop j=ys.drop j:=by
 apply List.ext_getElem?
 intro q
 rw[List.getElem?_drop,List.getElem?_drop,List.getElem?_set_ne (by omega)]
theorem CZ {α:Type} {ys xs:List α} {j:Nat} (h:ys.drop j=xs.drop j):ys.drop (j+1)=xs.drop (j+1):=by
 rw[<-List.drop_drop,h,List.drop_drop]
theorem v7 {α:Type} {ys xs:List α} {j q:Nat} (h:ys.drop j=xs.drop j) (hq:j<=q) (h1:q<ys.length) (h2:q<xs.length):ys[q] =xs[q]:=by
 have e:=congrArg (fun l=>l[q - j]?) h
 simp only[List.getElem?_drop,show j+(q - j)=q from by omega] at e
 rw[List.getElem?_eq_getElem h1,List.getElem?_eq_getElem h2] at e
 exact ae e
section
variable {α:Type} [DecidableEq α]
def pK:List α->List α
 | [] =>[]
 | [a] =>[a]
 | a::b::l=>if a=b then pK (b::l) else a::pK (b::l)
theorem v8 {x:α} : ∀ {l:List α},x∈pK l↔x∈l
 | [] =>Iff.rfl
 | [a] =>Iff.rfl
 | a::b::l=>by
  rw[pK]
  split
  ·rename_i e;subst e;rw[v8];simp
  ·rw[List.mem_cons,v8,List.mem_cons (l:=b::l)]
theorem C1: ∀(l:List α) (b:α),l≠ [] ->pK (l++ [b])=if l.getLast? =some b then pK l else pK l++ [b]
 | [],b,h=>absurd rfl h
 | [a],b,_=>by
  by_cases e:a=b
  ·subst e;simp[pK]
  ·simp[pK,e]
 | a::c::l,b,_=>by
  have ih:=C1 (c::l) b (by simp)
  have hg:(a::c::l).getLast? =(c::l).getLast? :=by simp[List.getLast?_cons_cons]
  rw[hg]
  show pK (a::c::(l++ [b]))=_
  rw[pK,pK]
  rw[show c::(l++ [b])=(c::l)++ [b] from rfl,ih]
  by_cases e:a=c
  ·rw[if_pos e,if_pos e]
  ·rw[if_neg e,if_neg e]
   split <;> simp
theorem xQ {xs:List α} {j:Nat} (h0:0<j) (h:j<xs.length):pK (xs.take (j+1))=if xs[j - 1] =xs[j] then pK (xs.take j) else pK (xs.take j)++ [xs[j]]:=by
 rw[List.take_succ_eq_append_getElem h,C1 _ _ (by
  intro e
  have h9:=congrArg List.length e
  rw[aD,Nat.min_eq_left (Nat.le_of_lt h),az] at h9
  omega)]
 have hg:(xs.take j).getLast? =some xs[j - 1]:=by
  rw[List.getLast?_eq_getElem?,aD,Nat.min_eq_left (Nat.le_of_lt h),List.getElem?_take,if_pos (show j - 1<j by omega),List.getElem?_eq_getElem (show j - 1<xs.length by omega)]
 rw[hg]
 by_cases e:xs[j - 1] =xs[j]
 ·rw[if_pos (by rw[e]),if_pos e]
 ·rw[if_neg (by simpa using e),if_neg e]
theorem C2 {xs:List α} : ∀(j:Nat),j<=xs.length->(∀q (hq:q<j) (h0:0<q) (hx:j<=xs.length),xs[q - 1]'(by omega)≠xs[q]'(by omega))->pK (xs.take j)=xs.take j
 | 0,_,_=>by simp[pK]
 | 1,h,_=>by
  cases xs with
  | nil=>simp[pK]
  | cons a l=>simp[pK]
 | j+2,h,hq=>by
  rw[xQ (by omega) (by omega),if_neg (hq (j+1) (by omega) (by omega) h),C2 (j+1) (by omega) (fun q h1 h2 h3=>hq q (by omega) h2 h),<-List.take_succ_eq_append_getElem]
end
theorem Bd: ∀ {l:List Int},l.Pairwise (fun a b=>a<=b)->(pK l).Pairwise (fun a b=>a<b)
 | [],_=>List.Pairwise.nil
 | [a],_=>by simp[pK]
 | a::b::l,h=>by
  obtain ⟨h1,h2⟩:=List.pairwise_cons.1 h
  rw[pK]
  split
  ·exact Bd h2
  ·rename_i hn
   refine List.pairwise_cons.2 ⟨fun x hx=>?_,Bd h2⟩
   have hab:a<b:=by have:=h1 b (List.mem_cons_self ..);omega
   rcases ay (v8.1 hx) with rfl | hx
   ·exact hab
   ·have:=(List.pairwise_cons.1 h2).1 x hx
    omega
theorem C3: ∀ {l m:List Int},l.Pairwise (fun a b=>a<b)->m.Pairwise (fun a b=>a<b)->(∀x,x∈l↔x∈m)->l=m
 | [],[],_,_,_=>rfl
 | [],b::m,_,_,h=>absurd ((h b).2 (by simp)) (by simp)
 | a::l,[],_,_,h=>absurd ((h a).1 (by simp)) (by simp)
 | a::l,b::m,h1,h2,h=>by
  obtain ⟨k1,k2⟩:=List.pairwise_cons.1 h1
  obtain ⟨j1,j2⟩:=List.pairwise_cons.1 h2
  have hab:a=b:=by
   have ha:=(h a).1 (by simp)
   have hb:=(h b).2 (by simp)
   rcases ay ha with e | ha
   ·exact e
   ·rcases ay hb with e | hb
    ·exact e.symm
    ·have:=k1 b hb;have:=j1 a ha;omega
  subst hab
  rw[C3 k2 j2 fun x=>?_]
  have:=h x
  rw[List.mem_cons,List.mem_cons] at this
  constructor
  ·intro hx
   rcases this.1 (.inr hx) with e | e
   ·subst e;have:=k1 x hx;omega
   ·exact e
  ·intro hx
   rcases this.2 (.inr hx) with e | e
   ·subst e;have:=j1 x hx;omega
   ·exact e
end D
namespace D
open Go.RowKit
theorem Gu: ∀(l:List Pr) (b:Pr),l≠ [] ->nub (l++ [b])=if l.getLast? =some b then nub l else nub l++ [b]
 | [],b,h=>absurd rfl h
 | [a],b,_=>by
  by_cases e:a=b
  ·subst e;simp[nub]
  ·simp[nub,e]
 | a::c::l,b,_=>by
  have ih:=Gu (c::l) b (by simp)
  have hg:(a::c::l).getLast? =(c::l).getLast? :=by simp[List.getLast?_cons_cons]
  rw[hg]
  show nub (a::c::(l++ [b]))=_
  rw[nub,nub]
  rw[show c::(l++ [b])=(c::l)++ [b] from rfl,ih]
  by_cases e:a=c
  ·rw[if_pos e,if_pos e]
  ·rw[if_neg e,if_neg e]
   split <;> simp
theorem Be {xs:List Pr} {j:Nat} (h0:0<j) (h:j<xs.length):nub (xs.take (j+1))=if xs[j - 1] =xs[j] then nub (xs.take j) else nub (xs.take j)++ [xs[j]]:=by
 rw[List.take_succ_eq_append_getElem h,Gu _ _ (by
  intro e
  have h9:=congrArg List.length e
  rw[aD,Nat.min_eq_left (Nat.le_of_lt h),az] at h9
  omega)]
 have hg:(xs.take j).getLast? =some xs[j - 1]:=by
  rw[List.getLast?_eq_getElem?,aD,Nat.min_eq_left (Nat.le_of_lt h),List.getElem?_take,if_pos (show j - 1<j by omega),List.getElem?_eq_getElem (show j - 1<xs.length by omega)]
 rw[hg]
 by_cases e:xs[j - 1] =xs[j]
 ·rw[if_pos (by rw[e]),if_pos e]
 ·rw[if_neg (by simpa using e),if_neg e]
theorem Gv {xs:List Pr} : ∀(j:Nat),j<=xs.length->(∀q (hq:q<j) (h0:0<q) (hx:j<=xs.length),xs[q - 1]'(by omega)≠xs[q]'(by omega))->nub (xs.take j)=xs.take j
 | 0,_,_=>by simp[nub]
 | 1,h,_=>by
  cases xs with
  | nil=>simp[nub]
  | cons a l=>simp[nub]
 | j+2,h,hq=>by
  rw[Be (by omega) (by omega),if_neg (hq (j+1) (by omega) (by omega) h),Gv (j+1) (by omega) (fun q h1 h2 h3=>hq q (by omega) h2 h),<-List.take_succ_eq_append_getElem]
end D
namespace D
open Go.RowKit
theorem Ln (l:List Pr) (hl:l.length<=1073741824): ∃b,dJ l=some b:=by
 unfold dJ
 obtain ⟨o,e,hQ⟩:=b9 (f:=cC l) (fun i s=>s=(i:Int)) (fun o=>o= .ret false\/ ∃s,o= .brk s) l.length (fun i s hi hI=>by
  subst hI
  unfold cC bq
  by_cases h1:i<l.length
  ·rw[eN h1,if_pos rfl,aW h1,ak (by omega)]
   have fin: ∀c:Prop,[Decidable c] ->(i<l.length/\ ∃s',(if c then some (.ret false) else some (.nxt ((i+1:Nat):Int)):Option (Out Bool Int))=some (.nxt s')/\s'=((i+1:Nat):Int))\/ ∃o,(if c then some (.ret false) else some (.nxt ((i+1:Nat):Int)):Option (Out Bool Int))=some o/\(∀s',o≠ .nxt s')/\(o= .ret false\/ ∃s,o= .brk s):=by
    intro c _
    split
    ·exact .inr ⟨_,rfl,fun s' h=>by simp at h,.inl rfl⟩
    ·exact .inl ⟨h1,_,rfl,rfl⟩
   have bad:(i<l.length/\ ∃s',(some (.ret false):Option (Out Bool Int))=some (.nxt s')/\s'=((i+1:Nat):Int))\/ ∃o,(some (.ret false):Option (Out Bool Int))=some o/\(∀s',o≠ .nxt s')/\(o= .ret false\/ ∃s,o= .brk s):=.inr ⟨_,rfl,fun s' h=>by simp at h,.inl rfl⟩
   have good:(i<l.length/\ ∃s',(some (.nxt ((i+1:Nat):Int)):Option (Out Bool Int))=some (.nxt s')/\s'=((i+1:Nat):Int))\/ ∃o,(some (.nxt ((i+1:Nat):Int)):Option (Out Bool Int))=some o/\(∀s',o≠ .nxt s')/\(o= .ret false\/ ∃s,o= .brk s):=.inl ⟨h1,_,rfl,rfl⟩
   by_cases c1:l[i].1≥0
   ·by_cases c2:l[i].1<=4
    ·by_cases c3:l[i].2≥0
     ·by_cases c4:l[i].2<=4
      ·by_cases c5:(i:Int)>0
       ·have hp:IntKind.i64.wrap ((i:Int) - 1)=((i - 1:Nat):Int):=by rw[bQ (by omega) (by omega)];omega
        obtain ⟨r,er,-⟩:=SL l[i - 1] l[i]
        simp only[aa,c1,c2,c3,c4,c5,decide_true,if_true,hp,aW (show i - 1<l.length by omega),kl,er]
        exact fin _
       ·simp only[aa,c1,c2,c3,c4,c5,decide_true,if_true,decide_false,Bool.false_eq_true,if_false]
        exact good
      ·simp only[aa,c1,c2,c3,c4,decide_true,if_true,decide_false,Bool.false_eq_true,if_false]
       exact bad
     ·simp only[aa,c1,c2,c3,decide_true,if_true,decide_false,Bool.false_eq_true,if_false]
      exact bad
    ·simp only[aa,c1,c2,decide_true,if_true,decide_false,Bool.false_eq_true,if_false]
     exact bad
   ·simp only[aa,c1,decide_false,Bool.false_eq_true,if_false]
    exact bad
  ·obtain rfl:i=l.length:=by omega
   rw[eU]
   exact .inr ⟨_,rfl,fun s' h=>by simp at h,.inr ⟨_,rfl⟩⟩) (s:=0) rfl (np _ (by omega))
 rcases hQ with rfl | ⟨s,rfl⟩
 ·exact ⟨_,bK e⟩
 ·exact ⟨_,ah e⟩
end D
namespace D
open Go.RowKit
theorem Lo (xs:List Pr) (hl:xs.length<=1073741824):b7 xs=some (nub xs):=by
 unfold b7
 by_cases h2:xs.length<2
 ·rw[if_pos (by simp;omega)]
  cases xs with
  | nil=>rfl
  | cons a l =>
   cases l with
   | nil=>rfl
   | cons b l=>simp only[al] at h2;omega
 rw[if_neg (by simp;omega)]
 have key:(aC (bA xs) aP 1=some (.ret (nub xs)))\/(∃s,aC (bA xs) aP 1=some (.brk s)/\nub xs=xs):=by
  obtain ⟨o,e,hQ⟩:=b9 (f:=bA xs) (fun t s=>s=((t+1:Nat):Int)/\nub (xs.take (t+1))=xs.take (t+1)) (fun o=>o= .ret (nub xs)\/ ∃s,o= .brk s/\nub xs=xs) (xs.length - 1) (fun t s ht hI=>by
   obtain ⟨rfl,hI⟩:=hI
   unfold bA
   by_cases h1:t+1<xs.length
   ·have hp:((t+1:Nat):Int) - 1=((t:Nat):Int):=by omega
    rw[eN h1,if_pos rfl,aW h1,bQ (n:=((t+1:Nat):Int) - 1) (by omega) (by omega),hp,aW (show t<xs.length by omega)]
    simp only[aa,WW]
    have hn:=Be (xs:=xs) (j:=t+1) (by omega) h1
    rw[hI] at hn
    simp only[Nat.add_sub_cancel] at hn
    by_cases he:xs[t+1] =xs[t]
    ·rw[if_pos (decide_eq_true he),uS (by omega),aa]
     rw[if_pos he.symm] at hn
     have hlt:(xs.take (t+1)).length=t+1:=by rw[aD];omega
     obtain ⟨s,e1,ys,rfl,k1,k2,k3,k4⟩:=dD (f:=bR xs ((t+1:Nat):Int)) (fun u s=> ∃ys:List Pr,s=(((nub (xs.take (t+2+u))).length:Int),((u+1:Nat):Int),ys)/\ys.length=xs.length/\ys.take (nub (xs.take (t+2+u))).length=nub (xs.take (t+2+u))/\ys.drop (t+1+u)=xs.drop (t+1+u)/\(nub (xs.take (t+2+u))).length<=t+1+u) (xs.length - (t+2)) (fun u s hu hI=>by
      obtain ⟨ys,rfl,k1,k2,k3,k4⟩:=hI
      have hj:t+2+u<xs.length:=by clear k4 k2;omega
      have hj1:t+1+u<xs.length:=by clear k4 k2;omega
      have hj2:t+2+u<ys.length:=by clear k4 k2;omega
      have hj3:t+1+u<ys.length:=by clear k4 k2;omega
      have a1:(0+((t+1:Nat):Int))+((u+1:Nat):Int)=((t+2+u:Nat):Int):=by omega
      have a2:((u+1:Nat):Int) - 1=((u:Nat):Int):=by omega
      have a3:(0+((t+1:Nat):Int))+((u:Nat):Int)=((t+1+u:Nat):Int):=by omega
      unfold bR
      dsimp only
      rw[if_pos (by simp;omega),uS (by omega)]
      simp only[aa]
      rw[bQ (n:=((u+1:Nat):Int) - 1) (by omega) (by omega),a1,a2,a3,aW (xs:=ys) hj2,aW (xs:=ys) hj3,uS (by omega),v7 k3 (by omega) hj2 hj,v7 k3 (aq _) hj3 hj1]
      simp only[aa,WW,kl]
      have e9:t+2+u - 1=t+1+u:=by clear k4 k2;omega
      have e8:0<t+2+u:=by clear k4 k2;omega
      have hnx:=Be (xs:=xs) (j:=t+2+u) e8 hj
      simp only[e9] at hnx
      have hd:=CZ k3
      rw[show t+1+u+1=t+1+(u+1) from by omega] at hd
      rw[show t+2+(u+1)=t+2+u+1 from by omega,hnx]
      generalize nub (xs.take (t+2+u))=K at *
      by_cases hq:xs[t+2+u] =xs[t+1+u]
      ·rw[if_pos (decide_eq_true hq),if_pos hq.symm]
       simp only[aa]
       rw[ak (by omega)]
       exact ⟨_,rfl,ys,rfl,k1,k2,hd,by omega⟩
      ·rw[if_neg (by simpa using hq),if_neg (fun e=>hq e.symm),aW (xs:=ys) (show K.length<ys.length by omega)]
       simp only[aa]
       rw[ak (by omega),ak (by omega)]
       refine ⟨_,rfl,ys.set K.length xs[t+2+u],?_,by simpa using k1,?_,?_,?_⟩
       ·rw[af,List.length_singleton];rfl
       ·rw[af,List.length_singleton,Gt (by omega),k2]
       ·rw[set_drop (by omega)];exact hd
       ·rw[af,List.length_singleton];omega) (fun s hI=>by
      obtain ⟨ys,rfl,k1,k2,k3,k4⟩:=hI
      unfold bR
      rw[if_neg (by simp;omega)]) (s:=(((t+1:Nat):Int),1,xs)) ⟨xs,by rw[Nat.add_zero,hn,hlt];rfl,rfl,by rw[Nat.add_zero,hn,hlt],rfl,by rw[Nat.add_zero,hn,hlt];omega⟩ (np _ (by omega))
     refine .inr ⟨.ret (nub xs),?_,fun s' hh=>(by simp at hh),.inl rfl⟩
     rw[ah e1]
     have hall:xs.take (t+2+(xs.length - (t+2)))=xs:=List.take_of_length_le (by omega)
     rw[hall] at k2 k4⊢
     generalize nub xs=K at *
     have q0:K.length<=ys.length:=by omega
     have z1:((0:Int)+((K.length:Nat):Int)).toNat=K.length:=by omega
     have z2:((0:Int)+(((ys.length:Nat):Int) - 0)).toNat=ys.length:=by omega
     simp only[z1,z2]
     have zl:=CY (z:=((0,0):Pr)) q0
     rw[uS (by omega),aa,uS (by omega),aa,uS (by rw[zl];omega),aa,zL q0,k2,List.drop_zero]
    ·rw[if_neg (by simpa using he),ak (by omega)]
     rw[if_neg (fun e=>he e.symm),<-List.take_succ_eq_append_getElem h1] at hn
     exact .inl ⟨by omega,_,rfl,rfl,hn⟩
   ·refine .inr ⟨.brk ((t+1:Nat):Int),?_,fun s' hh=>(by simp at hh),.inr ⟨_,rfl,?_⟩⟩
    ·rw[if_neg (by simp;omega)]
    ·rw[List.take_of_length_le (by omega)] at hI;exact hI) (s:=1) ⟨rfl,Gv 1 (by omega) (fun q h1 h0=>by omega)⟩ (np _ (by omega))
  rcases hQ with rfl | ⟨s,rfl,h⟩
  ·exact .inl e
  ·exact .inr ⟨s,e,h⟩
 rcases key with e | ⟨s,e,h⟩
 ·rw[bK e]
 ·rw[ah e,h]
def Vc (l:List Pr):List Pr:=nub (R.HU R.HV l)
theorem OM (l:List Pr):(R.HU R.HV l).Pairwise (fun a b=> ¬ltP b a):=by
 have hle: ∀a b:Pr,(!(ltOf R.HV b a))=true↔ ¬ltP b a:=fun a b=>by
  rw[Bool.not_eq_true',R.vY];rfl
 have h:=List.pairwise_mergeSort (le:=fun x y=> !(ltOf R.HV y x)) (fun a b c h1 h2=>by
  rw[hle] at *
  intro h
  unfold ltP at *
  omega) (fun a b=>by
  rw[Bool.or_eq_true,hle,hle]
  unfold ltP
  omega) l
 exact h.imp fun {a b} h=>(hle a b).1 h
theorem Gw (l:List Pr):Str (Vc l):=EG (OM l)
theorem Gx {l:List Pr} {x:Pr} :x∈Vc l↔x∈l:=by
 unfold Vc
 rw[Bb]
 exact List.mem_mergeSort
theorem Gy (l:List Pr) (hl:l.length<=268435456):jo l=some (Vc l):=by
 unfold jo cX R.OF
 rw[aJ (by simp only[az];omega)]
 simp only[aa,List.nil_append]
 rw[uS (by omega)]
 simp only[aa]
 rw[Lo _ (by rw[R.CJ];omega)]
 rfl
theorem xR (l:List Pr):Vc l=puts [] l:=tM (Gw l) (nq List.Pairwise.nil) fun x=>by rw[Gx,ji];simp
theorem SM {a b:List Pr} (ha:a.length<=67108864) (hb:b.length<=67108864):gk a b=some (puts [] (a++b)):=by
 unfold gk
 rw[aJ (by simp only[az];omega)]
 simp only[aa,List.nil_append]
 rw[aJ (by omega)]
 simp only[aa]
 rw[Gy _ (by rw[af];omega),xR];rfl
end D
namespace D
open Go.RowKit
abbrev AutT:=Int×(List Bool)×(List (List Int))
structure VA (a:AutT) (n:Nat):Prop where
 len:a.2.1.length=n
 start:0<=a.1/\a.1<n
 nlen:a.2.2.length=n
 row: ∀r∈a.2.2,r.length=9
 ent: ∀r∈a.2.2,∀t∈r,-1<=t/\t<n
def mv (a:AutT) (s:Int) (k:Nat):Int:=nth (nth a.2.2 s) k
theorem IA (x l h:Int):cq x l h=some (decide (l<=x/\x<=h)):=by
 unfold cq
 by_cases c:l<=x
 ·simp[c]
 ·have: ¬l<=x/\True:=⟨c,trivial⟩
  simp[c]
theorem Gz (x l h:Int):bq x l h=some (decide (l<=x/\x<=h)):=by
 unfold bq
 by_cases c:l<=x
 ·simp[c]
 ·simp[c]
theorem scan {α R:Type} [Inhabited α] {f:Int->Option (Out R Int)} (xs:List α) (p:α->Prop) [DecidablePred p] (r:R) (hN:xs.length<=9223372036854775807)
  (h: ∀i:Nat,i<xs.length->f (i:Int)=some (if p (nth xs i) then .nxt ((i+1:Nat):Int) else .ret r)) (he:f (xs.length:Int)=some (.brk (xs.length:Int))) :
  (aC f aP 0=some (.brk (xs.length:Int))/\ ∀x∈xs,p x)\/(aC f aP 0=some (.ret r)/\ ¬ ∀x∈xs,p x):=by
 obtain ⟨o,e,hq⟩:=b9 (f:=f) (fun i s=>s=(i:Int)/\ ∀j:Nat,j<i->p (nth xs j)) (fun o=>(o= .brk (xs.length:Int)/\ ∀x∈xs,p x)\/(o= .ret r/\ ¬ ∀x∈xs,p x)) xs.length (s:=0) (by
  rintro i s hi ⟨rfl,hp⟩
  by_cases hl:i<xs.length
  ·by_cases c:p (nth xs i)
   ·refine .inl ⟨hl,_,by rw[h i hl,if_pos c],rfl,fun j hj=>?_⟩
    by_cases e:j=i
    ·subst e;exact c
    ·exact hp j (by omega)
   ·refine .inr ⟨_,by rw[h i hl,if_neg c],(fun s' e=>by cases e),.inr ⟨rfl,fun hx=>c (hx _ (bB (by omega) (by omega)))⟩⟩
  ·obtain rfl:i=xs.length:=by omega
   refine .inr ⟨_,he,(fun s' e=>by cases e),.inl ⟨rfl,fun x hx=>?_⟩⟩
   obtain ⟨j,hj,rfl⟩:=xO hx
   exact hp j hj) ⟨rfl,by omega⟩ (gD hN)
 rcases hq with ⟨rfl,hq⟩ | ⟨rfl,hq⟩
 ·exact .inl ⟨e,hq⟩
 ·exact .inr ⟨e,hq⟩
section
variable {a:AutT} {n:Nat} (V:VA a n)
include V
theorem VA.pos:0<n:=by have:=V.start;omega
theorem VA.rowAt {s:Int} (h0:0<=s) (h1:s<n):(nth a.2.2 s).length=9:=V.row _ (bB h0 (by rw[V.nlen];exact h1))
theorem VA.mv {s:Int} {k:Nat} (h0:0<=s) (h1:s<n) (hk:k<9): -1<=mv a s k/\mv a s k<n:=
 V.ent _ (bB h0 (by rw[V.nlen];exact h1)) _ (bB (by omega) (by rw[V.rowAt h0 h1];omega))
theorem VA.get {s:Int} (h0:0<=s) (h1:s<n):aR a.2.2 s=some (nth a.2.2 s):=aF h0 (by rw[V.nlen];exact h1)
theorem VA.get2 {s:Int} {k:Nat} (h0:0<=s) (h1:s<n) (hk:k<9):aR (nth a.2.2 s) (k:Int)=some (D.mv a s k):=aF (by omega) (by rw[V.rowAt h0 h1];omega)
theorem VA.acc {s:Int} (h0:0<=s) (h1:s<n):aR a.2.1 s=some (nth a.2.1 s):=aF h0 (by rw[V.len];exact h1)
theorem xS {s:Int} {k:Nat} (h0:0<=s) (h1:s<n) (hk:k<9):bc a s (k:Int)=some (mv a s k):=by
 unfold bc fK
 rw[if_neg (by simp;omega),Gz];simp only[aa]
 rw[if_pos (by simp;omega),V.get h0 h1];simp only[aa]
 rw[V.get2 h0 h1 hk];rfl
end
end D
namespace D
open Go.RowKit
abbrev GrT:=(List Int)×(List Yq1)
theorem Ic {R:Type} {f:Int->Option (Out R Int)} (N:Nat) (p:Nat->Prop) [DecidablePred p] (r:R) (hN:N<=9223372036854775807)
  (h: ∀i:Nat,i<N->f (i:Int)=some (if p i then .nxt ((i+1:Nat):Int) else .ret r)) (he:f (N:Int)=some (.brk (N:Int))) :
  (aC f aP 0=some (.brk (N:Int))/\ ∀i,i<N->p i)\/(aC f aP 0=some (.ret r)/\ ¬ ∀i,i<N->p i):=by
 obtain ⟨o,e,hq⟩:=b9 (f:=f) (fun i s=>s=(i:Int)/\ ∀j:Nat,j<i->p j) (fun o=>(o= .brk (N:Int)/\ ∀i,i<N->p i)\/(o= .ret r/\ ¬ ∀i,i<N->p i)) N (s:=0) (by
  rintro i s hi ⟨rfl,hp⟩
  by_cases hl:i<N
  ·by_cases c:p i
   ·refine .inl ⟨hl,_,by rw[h i hl,if_pos c],rfl,fun j hj=>?_⟩
    by_cases e:j=i
    ·subst e;exact c
    ·exact hp j (by omega)
   ·exact .inr ⟨_,by rw[h i hl,if_neg c],(fun s' e=>by cases e),.inr ⟨rfl,fun hx=>c (hx i hl)⟩⟩
  ·obtain rfl:i=N:=by omega
   exact .inr ⟨_,he,(fun s' e=>by cases e),.inl ⟨rfl,hp⟩⟩) ⟨rfl,by omega⟩ (gD hN)
 rcases hq with ⟨rfl,hq⟩ | ⟨rfl,hq⟩
 ·exact .inl ⟨e,hq⟩
 ·exact .inr ⟨e,hq⟩
structure GOk (g:GrT):Prop where
 n1:1<=g.1.length
 n5:g.1.length<=5
 m:g.2.length<=12
 val: ∀v∈g.1,0<=v/\v<=2
 edge: ∀e∈g.2,(0<=e.2.1/\e.2.1<g.1.length)/\(0<=e.2.2.1/\e.2.2.1<g.1.length)/\0<=e.2.2.2/\e.2.2.2<=2
 asc: ∀i:Nat,i+1<g.2.length->(nth g.2 i).1<(nth g.2 ((i+1:Nat):Int)).1
def edgeP (e:Int×Int×Int×Int) (n:Int):Prop:=(1<=e.1/\e.1<=99)/\(0<=e.2.1/\e.2.1<=n - 1)/\(0<=e.2.2.1/\e.2.2.1<=n - 1)/\0<=e.2.2.2/\e.2.2.2<=2
instance (e n):Decidable (edgeP e n):=by unfold edgeP;infer_instance
theorem Vd (e:Int×Int×Int×Int) {n:Nat} (hn:n<=1048576):n9 e (n:Int)=some (decide (edgeP e n)):=by
 unfold n9 edgeP
 simp only[Gz,aa,kV (show n<=9223372036854775807 by omega)]
 by_cases c1:1<=e.1/\e.1<=99 <;> by_cases c2:0<=e.2.1/\e.2.1<=(n:Int) - 1 <;> by_cases c3:0<=e.2.2.1/\e.2.2.1<=(n:Int) - 1 <;> simp[c1,c2,c3]
def Wo (g:GrT):Prop:=GOk g/\ ∀e∈g.2,1<=e.1/\e.1<=99
theorem Bf (g:GrT) (h1:g.1.length<=1048576) (h2:g.2.length<=1048576): ∃b,aQ g=some b/\(b=true↔Wo g):=by
 unfold aQ
 have k0:=Ic (f:=dQ g) g.1.length (fun i=>0<=nth g.1 i/\nth g.1 i<=2) false (by omega) (fun i hi=>by
  unfold dQ
  rw[if_pos (by simp;omega),aF (by omega) (by omega)];simp only[aa,Gz,decide_eq_true_eq]
  split
  ·rw[ak (by omega)]
  ·rfl) (by unfold dQ;rw[if_neg (by simp)])
 have k1:=Ic (f:=cU g) g.2.length (fun i=>edgeP (nth g.2 i) g.1.length/\(0<i->(nth g.2 ((i:Int) - 1)).1<(nth g.2 i).1)) false (by omega) (fun i hi=>by
  unfold cU
  rw[if_pos (by simp;omega),aF (by omega) (by omega)];simp only[aa]
  have e1:=Vd (nth g.2 (i:Int)) h1
  have e1:n9 ((nth g.2 (i:Int)).1,(nth g.2 (i:Int)).2.1,(nth g.2 (i:Int)).2.2.1,(nth g.2 (i:Int)).2.2.2) (g.1.length:Int)=_:=e1
  rw[e1];simp only[aa,decide_eq_true_eq]
  by_cases c1:edgeP (nth g.2 (i:Int)) g.1.length
  ·rw[if_pos c1]
   by_cases c2:0<i
   ·rw[if_pos (by omega),kV (by omega),aF (by omega) (by omega)];simp only[aa]
    by_cases c3:(nth g.2 ((i:Int) - 1)).1<(nth g.2 (i:Int)).1
    ·rw[if_neg (by omega),if_pos ⟨c1,fun _=>c3⟩,ak (by omega)]
    ·rw[if_pos (by omega),if_neg (fun h=>c3 (h.2 c2))]
   ·rw[if_neg (by omega),if_pos ⟨c1,fun h=>absurd h c2⟩,ak (by omega)]
  ·rw[if_neg c1,if_neg (fun h=>c1 h.1)]) (by unfold cU;rw[if_neg (by simp)])
 rcases k0 with ⟨k0,j0⟩ | ⟨k0,j0⟩
 ·rw[ah k0]
  rcases k1 with ⟨k1,j1⟩ | ⟨k1,j1⟩
  ·rw[ah k1,Gz];simp only[aa,decide_eq_true_eq]
   split
   ·rename_i c
    refine ⟨_,rfl,fun hb=>?_,fun G=>decide_eq_true (by have:=G.1.m;omega)⟩
    have hb:=of_decide_eq_true hb
    refine ⟨⟨by omega,by omega,by omega,fun v hv=>?_,fun e he=>?_,fun i hi=>?_⟩,fun e he=>?_⟩
    rotate_left 3
    ·obtain ⟨i,hi,rfl⟩:=xO he
     exact (j1 i hi).1.1
    ·obtain ⟨i,hi,rfl⟩:=xO hv
     exact j0 i hi
    ·obtain ⟨i,hi,rfl⟩:=xO he
     obtain ⟨a1,a2,a3,a4⟩:=(j1 i hi).1
     exact ⟨⟨a2.1,by omega⟩,⟨a3.1,by omega⟩,a4⟩
    ·have:=(j1 (i+1) hi).2 (by omega)
     rwa [show (((i+1:Nat):Int) - 1)=(i:Int) from by omega] at this
   ·rename_i c
    exact ⟨false,rfl,(fun h=>by cases h),fun G=>absurd (by have:=G.1.n1;have:=G.1.n5;omega) c⟩
  ·rw[bK k1]
   refine ⟨false,rfl,(fun h=>by cases h),fun G=>absurd (fun i hi=>?_) j1⟩
   have hm:=bB (xs:=g.2) (i:=(i:Int)) (by omega) (by omega)
   obtain ⟨e1,e2,e3,e4⟩:=G.1.edge _ hm
   refine ⟨⟨G.2 _ hm,⟨e1.1,by omega⟩,⟨e2.1,by omega⟩,e3,e4⟩,fun h0=>?_⟩
   have:=G.1.asc (i - 1) (by omega)
   rwa [show ((i - 1:Nat):Int)=(i:Int) - 1 from by omega,show (((i - 1)+1:Nat):Int)=(i:Int) from by omega] at this
 ·rw[bK k0]
  exact ⟨false,rfl,(fun h=>by cases h),fun G=>absurd (fun i hi=>G.1.val _ (bB (by omega) (by omega))) j0⟩
theorem ON (g:GrT) (h1:g.1.length<=1048576) (h2:g.2.length<=1048576): ∃b,aQ g=some b/\(b=true->GOk g):=by
 obtain ⟨b,h1,h2⟩:=Bf g h1 h2
 exact ⟨b,h1,fun h=>(h2.1 h).1⟩
theorem GOk.lt {g:GrT} (G:GOk g) {i j:Nat} (h:i<j) (hj:j<g.2.length):(nth g.2 (i:Int)).1<(nth g.2 (j:Int)).1:=by
 induction h with
 | refl=>exact G.asc i hj
 | step h ih =>
  rename_i m
  have h1:=ih (by omega)
  have h2:=G.asc m hj
  exact Int.lt_trans h1 h2
end D
namespace D
open Go.RowKit
theorem tO (m:Nat):BitVec.ofInt 64 (m:Int)=BitVec.ofNat 64 m:=by simp
theorem Bg {m n:Nat} (hm:m<2 ^ 62) (hn:n<2 ^ 62):lf (m:Int) (n:Int)=((m &&& n:Nat):Int):=by
 unfold lf
 rw[tO,tO,BitVec.toNat_and,BitVec.toNat_ofNat,BitVec.toNat_ofNat,Nat.mod_eq_of_lt (by omega),Nat.mod_eq_of_lt (by omega)]
 have:m &&& n<=m:=Nat.and_le_left
 exact bQ (by omega) (by omega)
theorem zM {m n:Nat} (hm:m<2 ^ 62) (hn:n<2 ^ 62):orI (m:Int) (n:Int)=((m ||| n:Nat):Int):=by
 unfold orI
 rw[tO,tO,BitVec.toNat_or,BitVec.toNat_ofNat,BitVec.toNat_ofNat,Nat.mod_eq_of_lt (by omega),Nat.mod_eq_of_lt (by omega)]
 have:m ||| n<2 ^ 62:=Nat.or_lt_two_pow hm hn
 exact bQ (by omega) (by omega)
theorem xT {m i:Nat} (hi:i<64):ku (m:Int) (i:Int)=((m >>> i:Nat):Int):=by
 unfold ku
 rw[show min (i:Int).toNat 64=i from by simp;omega,Nat.shiftRight_eq_div_pow,Int.fdiv_eq_ediv_of_nonneg _ (by exact_mod_cast Nat.zero_le _)]
 simp
theorem nO {i:Nat} (hi:i<62):pL 1 (i:Int)=((2 ^ i:Nat):Int):=by
 unfold pL
 rw[show min (i:Int).toNat 64=i from by simp;omega,Int.one_mul]
 have:2 ^ i<2 ^ 62:=Nat.pow_lt_pow_right (by decide) hi
 rw[show ((2:Int) ^ i)=((2 ^ i:Nat):Int) from by simp]
 generalize 2 ^ i=z at this
 exact bQ (by omega) (by omega)
theorem uT {m i:Nat} (hm:m<2 ^ 62) (hi:i<64):((lf (ku (m:Int) (i:Int)) 1)==1)=m.testBit i:=by
 have h1:m >>> i<2 ^ 62:=Nat.lt_of_le_of_lt (by rw[Nat.shiftRight_eq_div_pow];exact Nat.div_le_self _ _) hm
 rw[xT hi,show (1:Int)=((1:Nat):Int) from rfl,Bg h1 (by decide),Nat.testBit,Nat.and_comm]
 have e:m >>> i &&& 1=m >>> i % 2:=Nat.and_one_is_mod _
 rw[Nat.and_comm 1,e]
 rcases Nat.mod_two_eq_zero_or_one (m >>> i) with h | h <;> rw[h] <;> rfl
theorem Bh {m i:Nat} (hm:m<2 ^ 62) (hi:i<64):((lf (ku (m:Int) (i:Int)) 1)==0)= !m.testBit i:=by
 have h1:m >>> i<2 ^ 62:=Nat.lt_of_le_of_lt (by rw[Nat.shiftRight_eq_div_pow];exact Nat.div_le_self _ _) hm
 rw[xT hi,show (1:Int)=((1:Nat):Int) from rfl,Bg h1 (by decide),Nat.testBit,Nat.and_comm]
 have e:m >>> i &&& 1=m >>> i % 2:=Nat.and_one_is_mod _
 rw[Nat.and_comm 1,e]
 rcases Nat.mod_two_eq_zero_or_one (m >>> i) with h | h <;> rw[h] <;> rfl
def dq (m k:Nat):List Int:=((List.range k).filter fun i=>m.testBit i).map fun (i:Nat)=>(i:Int)
theorem iF (m k:Nat):dq m (k+1)=if m.testBit k then dq m k++ [(k:Int)] else dq m k:=by
 unfold dq
 rw[List.range_succ,List.filter_append,aK]
 by_cases h:m.testBit k=true
 ·simp[h]
 ·simp[h]
theorem q7 {m k l:Nat} (h:m<2 ^ k) (hl:k<=l):dq m l=dq m k:=by
 induction hl with
 | refl=>rfl
 | step hl ih =>
  rw[iF,Nat.testBit_lt_two_pow (aG h (Nat.pow_le_pow_right (by decide) hl)),ih];rfl
theorem jT {m k:Nat} {x:Int} :x∈dq m k↔ ∃i:Nat,i<k/\m.testBit i=true/\x=(i:Int):=by
 unfold dq
 simp only[List.mem_map,List.mem_filter,List.mem_range]
 constructor
 ·rintro ⟨i,⟨h1,h2⟩,rfl⟩;exact ⟨i,h1,h2,rfl⟩
 ·rintro ⟨i,h1,h2,rfl⟩;exact ⟨i,⟨h1,h2⟩,rfl⟩
theorem kW (m k:Nat):(dq m k).length<=k:=by
 unfold dq;rw[List.length_map];exact Nat.le_trans (List.length_filter_le _ _) (by simp)
theorem zN {m:Nat} : ∀ {k:Nat},(∀i,i<k->m.testBit i=false)->dq m k= []
 | 0,_=>rfl
 | k+1,h=>by rw[iF,h k (by omega),zN fun i hi=>h i (by omega)];rfl
theorem C4 {s k:Nat} (h:s<k):dq (2 ^ s) k= [(s:Int)]:=by
 rw[q7 (k:=s+1) (Nat.pow_lt_pow_right (by decide) (by omega)) h,iF,Nat.testBit_two_pow,zN fun i hi=>by rw[Nat.testBit_two_pow];simp;omega]
 simp
theorem kK (m i j:Nat):(m ||| 2 ^ i).testBit j=(m.testBit j || decide (i=j)):=by
 rw[Nat.testBit_or,Nat.testBit_two_pow]
theorem tP {m i k:Nat} (h:m<2 ^ k) (hi:i<k):m ||| 2 ^ i<2 ^ k:=Nat.or_lt_two_pow h (Nat.pow_lt_pow_right (by decide) hi)
theorem OO {m i:Nat} (h:m >>> i=0):m<2 ^ i:=by
 rw[Nat.shiftRight_eq_div_pow] at h
 exact (Nat.div_eq_zero_iff_lt (Nat.two_pow_pos i)).1 h
end D
namespace D
open Go.RowKit
theorem p62 {n:Nat} (h:n<=30):2 ^ n<=2 ^ 62:=Nat.pow_le_pow_right (by decide) (by omega)
theorem qq {M:Nat} (hM:M<2 ^ 30):gR (M:Int)=some (dq M 30):=by
 have h62:M<2 ^ 62:=aG hM (p62 (by decide))
 obtain ⟨o,e,hq⟩:=b9 (f:=nI (M:Int)) (fun i s=>s=(dq M i,(i:Int))) (fun o=> ∃k,o= .brk (dq M 30,k)) 30 (s:=([],0)) (by
  rintro i s hi rfl
  unfold nI
  have e0:chk ((0:Int)<=(i:Int))=some ():=by unfold chk;rw[if_pos (by omega)]
  simp only[e0,aa]
  by_cases c:M >>> i=0
  ·refine .inr ⟨.brk (dq M i,(i:Int)),?_,(fun s' e=>by cases e),(i:Int),by rw[q7 (OO c) hi]⟩
   rw[xT (by omega),c];rfl
  ·have hi':i<30:=by
    rcases Nat.lt_or_ge i 30 with h | h
    ·exact h
    ·exfalso;apply c
     rw[Nat.shiftRight_eq_div_pow]
     exact Nat.div_eq_of_lt (aG hM (Nat.pow_le_pow_right (by decide) h))
   refine .inl ⟨hi',(dq M (i+1),((i+1:Nat):Int)),?_,rfl⟩
   have c':((ku (M:Int) (i:Int)) !=0)=true:=by
    rw[xT (by omega)]
    simp only[bne_iff_ne,ne_eq]
    omega
   rw[if_pos c',uT h62 (by omega),iF,ak (by omega)]
   by_cases b:M.testBit i=true
   ·rw[if_pos b,if_pos b,aJ (by have:=kW M i;simp;omega)];rfl
   ·rw[if_neg b,if_neg b];rfl) rfl (by unfold aP;omega)
 obtain ⟨k,rfl⟩:=hq
 unfold gR
 exact ah e
def ClI (n:Nat) (i:Nat) (st:Int×Int):Prop:=(-1<=st.2/\st.2<n)/\ ∃(M:Nat) (L:List Int),st.1=(M:Int)/\M<2 ^ n/\L.length=i/\L.Nodup/\(∀x∈L,0<=x/\x<n)/\ ∀j:Nat,M.testBit j=true↔(j:Int)∈L
theorem Ve {n:Nat} {L:List Int} (h:L.Nodup) (k: ∀x∈L,0<=x/\x<n):L.length<=n:=by
 have:=h.length_le_of_subset (l₂:=(List.range n).map fun i:Nat=>(i:Int)) (fun x hx=>by
  obtain ⟨h0,h1⟩:=k x hx
  exact List.mem_map.2 ⟨x.toNat,List.mem_range.2 (by omega),by omega⟩)
 simpa using this
section
variable {a:AutT} {n:Nat} (V:VA a n) (hn:n<=12)
include V hn
theorem Lp {v:Int} (hv:0<=v/\v<=2) {i:Nat} {st:Int×Int} (h:ClI n i st) :
  (i<n/\ ∃st',bJ a v st=some (.nxt st')/\ClI n (i+1) st')\/bJ a v st=some (.brk st):=by
 obtain ⟨⟨h1,h2⟩,M,L,e1,hM,hl,hd,hr,hb⟩:=h
 obtain ⟨m,s⟩:=st
 obtain rfl:m=(M:Int):=e1
 have h62:M<2 ^ 62:=aG hM (p62 (by omega))
 unfold bJ
 by_cases c:s≥0
 ·obtain ⟨k,rfl⟩: ∃k:Nat,s=(k:Int):=⟨s.toNat,by omega⟩
  have hk:k<n:=by simp only at h2;omega
  have e0:chk ((0:Int)<=(k:Int))=some ():=by unfold chk;rw[if_pos (by omega)]
  simp only[e0,aa]
  rw[if_pos (by simp),Bh h62 (by omega)]
  by_cases b:M.testBit k=true
  ·right;rw[if_neg (by simp[b])]
  ·left
   have b':(k:Int)∉L:=fun hh=>b ((hb k).2 hh)
   have hle:=Ve (n:=n) (L:=(k:Int)::L) (List.nodup_cons.2 ⟨b',hd⟩) (fun x hx=>by
    rcases ay hx with rfl | hx
    ·omega
    ·exact hr x hx)
   simp only[al] at hle
   obtain ⟨u,rfl⟩: ∃u:Nat,v=(u:Int):=⟨v.toNat,by omega⟩
   have hu:u<=2:=by omega
   have ew:IntKind.i64.wrap (6+(u:Int))=((6+u:Nat):Int):=by rw[bQ (by omega) (by omega)];omega
   refine ⟨by omega,(((M ||| 2 ^ k:Nat):Int),mv a (k:Int) (6+u)),?_,?_,M ||| 2 ^ k,(k:Int)::L,rfl,tP hM hk,by simp[hl],List.nodup_cons.2 ⟨b',hd⟩,?_,?_⟩
   ·rw[if_pos (by simp[b]),ew]
    have e2:=xS V (s:=(k:Int)) (k:=6+u) (by omega) (by omega) (by omega)
    have e2:bc (a.1,a.2.1,a.2.2) (k:Int) ((6+u:Nat):Int)=_:=e2
    rw[e2,nO (by omega),zM h62 (Nat.pow_lt_pow_right (by decide) (by omega))];rfl
   ·exact V.mv (by omega) (by omega) (by omega)
   ·intro x hx
    rcases ay hx with rfl | hx
    ·omega
    ·exact hr x hx
   ·intro j
    rw[kK,Bool.or_eq_true,hb j,List.mem_cons,decide_eq_true_eq]
    constructor
    ·rintro (h | h)
     ·exact .inr h
     ·left;omega
    ·rintro (h | h)
     ·right;omega
     ·exact .inl h
 ·right
  rw[if_neg (by simpa using c)]
theorem C5 {s v:Int} (hs:0<=s/\s<n) (hv:0<=v/\v<=2): ∃C:Nat,dR a s v=some (C:Int)/\C<2 ^ n:=by
 have h0:ClI n 0 (0,s):=⟨⟨by simp only;omega,hs.2⟩,0,[],rfl,Nat.two_pow_pos n,rfl,List.nodup_nil,by simp,by simp⟩
 obtain ⟨o,e,C,s',rfl,hC⟩:=b9 (f:=bJ a v) (ClI n) (fun o=> ∃(C:Nat) (s':Int),o= .brk ((C:Int),s')/\C<2 ^ n) n (s:=(0,s)) (fun i st hi h=>by
  rcases Lp V hn hv h with h' | h'
  ·exact .inl h'
  ·obtain ⟨_,M,L,e1,hM,_⟩:=h
   obtain ⟨m,s'⟩:=st
   obtain rfl:m=(M:Int):=e1
   exact .inr ⟨_,h',(fun s' e=>by cases e),M,s',rfl,hM⟩) h0 (by unfold aP;omega)
 exact ⟨C,by unfold dR;exact ah e,hC⟩
end
def cS (a:AutT) (s v:Int):Nat:=((dR a s v).getD 0).toNat
section
variable {a:AutT} {n:Nat} (V:VA a n) (hn:n<=12)
include V hn
theorem ja {s v:Int} (hs:0<=s/\s<n) (hv:0<=v/\v<=2):dR a s v=some (cS a s v:Int)/\cS a s v<2 ^ n:=by
 obtain ⟨C,e,h⟩:=C5 V hn hs hv
 unfold cS
 rw[e]
 exact ⟨rfl,by simpa using h⟩
end
def afS (a:AutT) (k:Nat) (C:Nat):Nat->Nat
 | 0=>0
 | q+1=>if C.testBit q=true/\0<=mv a (q:Int) k then afS a k C q ||| 2 ^ (mv a (q:Int) k).toNat else afS a k C q
def afL (a:AutT) (k:Nat) (l:List Int):Nat:=l.foldl (fun m t=>if 0<=mv a t k then m ||| 2 ^ (mv a t k).toNat else m) 0
theorem EI (a:AutT) (k C:Nat): ∀q,afL a k (dq C q)=afS a k C q
 | 0=>rfl
 | q+1=>by
  rw[iF,afS]
  by_cases b:C.testBit q=true
  ·rw[if_pos b]
   unfold afL
   rw[List.foldl_append]
   have:=EI a k C q
   unfold afL at this
   rw[this]
   simp[b]
  ·rw[if_neg b,if_neg (fun h=>b h.1)]
   exact EI a k C q
section
variable {a:AutT} {n:Nat} (V:VA a n) (hn:n<=12)
include V
theorem Lq {k C:Nat} (hk:k<9): ∀q,q<=n->afS a k C q<2 ^ n
 | 0,_=>Nat.two_pow_pos n
 | q+1,hq=>by
  rw[afS]
  have:=Lq (C:=C) hk q (by omega)
  split
  ·rename_i c
   have:=(V.mv (s:=(q:Int)) (by omega) (by omega) hk).2
   exact tP (by assumption) (by omega)
  ·exact this
theorem Qm {k:Nat} (hk:k<9) {l:List Int} (h: ∀x∈l,0<=x/\x<n):afL a k l<2 ^ n:=by
 unfold afL
 have key: ∀(l:List Int) (m:Nat),(∀x∈l,0<=x/\x<n)->m<2 ^ n->l.foldl (fun m t=>if 0<=mv a t k then m ||| 2 ^ (mv a t k).toNat else m) m<2 ^ n:=by
  intro l
  induction l with
  | nil=>intro m _ h;exact h
  | cons x l ih =>
   intro m hx hm
   rw[List.foldl_cons]
   refine ih _ (fun y hy=>hx y (by simp[hy])) ?_
   split
   ·have:=(V.mv (hx x (by simp)).1 (hx x (by simp)).2 hk).2
    exact tP hm (by omega)
   ·exact hm
 exact key l 0 h (Nat.two_pow_pos n)
include hn
theorem lS {C:Nat} (hC:C<2 ^ n): ∀x∈dq C 30,0<=x/\x<(n:Int):=by
 intro x hx
 obtain ⟨i,hi,hb,rfl⟩:=jT.1 hx
 refine ⟨by omega,?_⟩
 rcases Nat.lt_or_ge i n with h | h
 ·omega
 ·rw[Nat.testBit_lt_two_pow (aG hC (Nat.pow_le_pow_right (by decide) h))] at hb;cases hb
theorem Ie {k:Nat} (hk:k<6) {l:List Int} (hl: ∀x∈l,0<=x/\x<n) (hlen:l.length<=30):aC (kO a (k:Int) l) aP (0,0)=some (.brk ((afL a k l:Int),(l.length:Int))):=by
 have:=aL (f:=kO a (k:Int) l) (fun i=>((afL a k (l.take i):Int),(i:Int))) l.length (fun i hi=>by
  unfold kO
  simp only
  have hx:=hl _ (bB (xs:=l) (i:=(i:Int)) (by omega) (by omega))
  rw[if_pos (by simp;omega),aF (by omega) (by omega)];simp only[aa]
  have e2:=xS V (s:=nth l (i:Int)) (k:=k) hx.1 hx.2 (by omega)
  have e2:bc (a.1,a.2.1,a.2.2) (nth l (i:Int)) (k:Int)=_:=e2
  rw[e2,ak (by omega)];simp only[aa]
  have et:l.take (i+1)=l.take i++ [nth l (i:Int)]:=by rw[List.take_add_one,bM hi];simp[hi]
  have ef:afL a k (l.take (i+1))=if 0<=mv a (nth l (i:Int)) k then afL a k (l.take i) ||| 2 ^ (mv a (nth l (i:Int)) k).toNat else afL a k (l.take i):=by
   rw[et];unfold afL;rw[List.foldl_append];rfl
  have hlt:=Qm V (k:=k) (by omega) (l:=l.take i) (fun x hx=>hl x (List.mem_of_mem_take hx))
  have hmv:=(V.mv (s:=nth l (i:Int)) (k:=k) hx.1 hx.2 (by omega)).2
  rw[ef]
  by_cases c:0<=mv a (nth l (i:Int)) k
  ·rw[if_pos (by simpa using c),if_pos c]
   obtain ⟨t,ht⟩: ∃t:Nat,mv a (nth l (i:Int)) k=(t:Int):=⟨_,(Int.toNat_of_nonneg c).symm⟩
   have e0:chk ((0:Int)<=mv a (nth l (i:Int)) k)=some ():=by unfold chk;rw[if_pos c]
   rw[e0,ht,nO (by omega),zM (aG hlt (p62 (by omega))) (Nat.pow_lt_pow_right (by decide) (by omega))];rfl
  ·rw[if_neg (by simpa using c),if_neg c];rfl) (by unfold kO;simp) (gD (by omega))
 simpa [afL] using this
theorem Vf {s v:Int} {k:Nat} (hs:0<=s/\s<n) (hv:0<=v/\v<=2) (hk:k<6):p9 a (pL 1 s) v (k:Int)=some (afL a k (dq (cS a s v) 30):Int):=by
 obtain ⟨t,rfl⟩: ∃t:Nat,s=(t:Int):=⟨s.toNat,by omega⟩
 obtain ⟨e1,h1⟩:=ja V hn hs hv
 have hC:cS a (t:Int) v<2 ^ 30:=aG h1 (Nat.pow_le_pow_right (by decide) (by omega))
 unfold p9
 rw[nO (by omega),qq (Nat.pow_lt_pow_right (by decide) (by omega)),C4 (by omega)];simp only[aa]
 have h0:gS a v (k:Int) [(t:Int)] (0,0)=some (.nxt ((afL a k (dq (cS a (t:Int) v) 30):Int),1)):=by
  unfold gS
  simp only
  rw[if_pos (by simp),show aR [(t:Int)] 0=some (t:Int) from rfl];simp only[aa]
  have e1:dR (a.1,a.2.1,a.2.2) (t:Int) v=_:=e1
  rw[e1];simp only[aa]
  rw[qq hC];simp only[aa]
  rw[Ie V hn hk (lS V hn h1) (kW _ _)]
  rfl
 have h1': ∀m:Int,gS a v (k:Int) [(t:Int)] (m,1)=some (.brk (m,1)):=fun m=>by
  unfold gS;rw[if_neg (by simp)]
 have:=aL (f:=gS a v (k:Int) [(t:Int)]) (fun i=>if i=0 then (0,0) else ((afL a k (dq (cS a (t:Int) v) 30):Int),1)) 1 (fun i hi=>by
  obtain rfl:i=0:=by omega
  exact h0) (h1' _) (by unfold aP;omega)
 have this:aC (gS a v (k:Int) [(t:Int)]) aP (0,0)=some (.brk ((afL a k (dq (cS a (t:Int) v) 30):Int),1)):=this
 rw[this];rfl
end
end D
namespace D
open Go.RowKit
theorem jb {p:Prop} [Decidable p] (h:p):chk p=some ():=by unfold chk;rw[if_pos h]
def rm {α:Type} (N:Nat) (F:Nat->α):List α:=(List.range N).map F
section
variable {α:Type} {N:Nat} {F G:Nat->α}
theorem rF:(rm N F).length=N:=by simp[rm]
theorem lT (h: ∀z,z<N->F z=G z):rm N F=rm N G:=by
 unfold rm
 exact List.map_congr_left fun z hz=>h z (List.mem_range.1 hz)
theorem sw {c:Nat} (h:c<N):aR (rm N F) (c:Int)=some (F c):=by
 rw[aW (by rw[rF];exact h)]
 simp[rm]
theorem Lr {c:Nat} {v:α} :(rm N F).set c v=rm N fun z=>if z=c then v else F z:=by
 refine List.ext_getElem (by simp[rm]) fun i h1 h2=>?_
 simp only[rm,List.getElem_set,List.getElem_map,List.getElem_range]
 by_cases e:c=i
 ·subst e;simp
 ·rw[if_neg e,if_neg (fun h=>e h.symm)]
theorem sx {xs:List α} [Inhabited α] {k:Nat} (h:k<xs.length):xs.take (k+1)=xs.take k++ [nth xs (k:Int)]:=by
 rw[List.take_add_one,bM h];simp[h]
end
theorem Qn {α:Type} {b n:Nat} {z:α} (h:n*b<=140737488355328):mkI b (n:Int) z=some (rm n fun _=>z):=by
 have:rm n (fun _=>z)=List.replicate n z:=by
  unfold rm;exact List.ext_getElem (by simp) fun i h1 h2=>by simp
 rw[this,U9 h]
abbrev EdT:=Int×Int×Int×Int
abbrev ArT:=(Int×Bool)×Int×Int
def fwd (e:EdT):ArT:=((e.1,false),2*e.2.2.2,e.2.2.1)
def inv (e:EdT):ArT:=((e.1,true),2*e.2.2.2+1,e.2.1)
def GB (e:EdT) (x:Int):List ArT:=(if e.2.1=x then [fwd e] else [])++(if e.2.2.1=x then [inv e] else [])
def arcL (es:List EdT) (x:Nat):List ArT:=es.flatMap fun e=>GB e x
theorem OP (e:EdT) (x:Int):(GB e x).length<=2:=by
 unfold GB;rw[af];split <;> split <;> simp
theorem mJ {α β:Type} {f:α->List β} {B:Nat} : ∀ {xs:List α},(∀x∈xs,(f x).length<=B)->(xs.flatMap f).length<=B*xs.length
 | [],_=>by simp
 | x::xs,h=>by
  rw[List.flatMap_cons,af,al,Nat.mul_add]
  have:=h x (by simp)
  have:=mJ (xs:=xs) fun y hy=>h y (by simp[hy])
  omega
theorem nt (es:List EdT) (x:Nat):(arcL es x).length<=2*es.length:=mJ fun e _=>OP e x
theorem Ls (e:EdT) (h:0<=e.2.2.2/\e.2.2.2<=2) (b:Bool):p8 e b=some (if b then 2*e.2.2.2+1 else 2*e.2.2.2):=by
 unfold p8
 rw[bQ (n:=2*e.2.2.2) (by omega) (by omega),bQ (by omega) (by omega)]
 cases b <;> rfl
theorem Qo {g:GrT} (G:GOk g):qP g=some (rm g.1.length (arcL g.2)):=by
 unfold qP
 rw[Qn (by have:=G.n5;omega)];simp only[aa]
 have:=aL (f:=mq g) (fun i=>((i:Int),rm g.1.length (arcL (g.2.take i)))) g.2.length (fun i hi=>by
  unfold mq
  simp only
  have hm:=G.m
  obtain ⟨⟨a1,a2⟩,⟨b1,b2⟩,c1⟩:=G.edge _ (bB (xs:=g.2) (i:=(i:Int)) (by omega) (by omega))
  rw[if_pos (by simp;omega),aF (by omega) (by omega)];simp only[aa]
  generalize he:nth g.2 (i:Int)=e at a1 a2 b1 b2 c1
  obtain ⟨id,fr,to,lb⟩:=e
  obtain ⟨p,rfl⟩: ∃p:Nat,fr=(p:Int):=⟨fr.toNat,by simp only at a1;omega⟩
  obtain ⟨q,rfl⟩: ∃q:Nat,to=(q:Int):=⟨to.toNat,by simp only at b1;omega⟩
  simp only at a1 a2 b1 b2 c1
  have hp:p<g.1.length:=by omega
  have hq:q<g.1.length:=by omega
  have r1:=Ls (id,(p:Int),(q:Int),lb) c1 false
  have r2:=Ls (id,(p:Int),(q:Int),lb) c1 true
  have l1:=nt (g.2.take i) p
  have l2:=nt (g.2.take i) q
  have l3:(g.2.take i).length<=12:=by rw[aD];omega
  simp only[sw hp,sw hq,aa,r1,r2,Int.toNat_natCast,Lr,Bool.false_eq_true,if_false,if_true]
  rw[aJ (by simp;omega)];simp only[aa,Lr]
  rw[jb (by rw[rF];omega),jb trivial];simp only[aa]
  rw[aJ (by split <;> simp <;> omega)];simp only[aa]
  rw[jb (by rw[rF];omega)];simp only[aa]
  try rw[jb rfl];simp only[aa]
  rw[ak (by omega)]
  congr 3
  refine lT fun z hz=>?_
  rw[sx hi,he]
  unfold arcL
  rw[List.flatMap_append]
  simp only[List.flatMap_cons,List.flatMap_nil,List.append_nil,GB]
  by_cases e1:z=q
  ·subst e1
   by_cases e2:z=p
   ·subst e2;simp[fwd,inv]
   ·simp[e2,fwd,inv,show¬((p:Int)=(z:Int)) from by omega]
  ·by_cases e2:z=p
   ·subst e2;simp[e1,fwd,inv,show¬((q:Int)=(z:Int)) from by omega]
   ·simp[e1,e2,show¬((p:Int)=(z:Int)) from by omega,show¬((q:Int)=(z:Int)) from by omega]) (by unfold mq;simp) (gD (by have:=G.m;omega))
 have this:aC (mq g) aP (0,rm g.1.length fun _=>[])=_:=this
 rw[this,List.take_length];rfl
end D
namespace D
open Go.RowKit
structure InR (l:List Pr):Prop where
 str:Str l
 rng: ∀p∈l,(0<=p.1/\p.1<5)/\0<=p.2/\p.2<5
theorem Str.nd {l:List Pr} (h:Str l):l.Nodup:=List.Pairwise.imp (fun {a b} (h:ltP a b) (e:a=b)=>ED a (e ▸ h)) h
def sq5:List Pr:=(List.range 5).flatMap fun i:Nat=>(List.range 5).map fun j:Nat=>((i:Int),(j:Int))
theorem InR.len {l:List Pr} (h:InR l):l.length<=25:=by
 have:=h.str.nd.length_le_of_subset (l₂:=sq5) (fun p hp=>by
  obtain ⟨⟨h1,h2⟩,h3,h4⟩:=h.rng p hp
  unfold sq5
  rw[List.mem_flatMap]
  refine ⟨p.1.toNat,List.mem_range.2 (by omega),List.mem_map.2 ⟨p.2.toNat,List.mem_range.2 (by omega),?_⟩⟩
  have e1:((p.1.toNat:Nat):Int)=p.1:=by omega
  have e2:((p.2.toNat:Nat):Int)=p.2:=by omega
  rw[e1,e2])
 exact this
theorem InR.nil:InR []:=⟨List.Pairwise.nil,fun p hp=>by cases hp⟩
theorem InR.puts {l:List Pr} (h: ∀p∈l,(0<=p.1/\p.1<5)/\0<=p.2/\p.2<5):InR (puts [] l):=⟨nq List.Pairwise.nil,fun p hp=>by
 rcases ji.1 hp with hp | hp
 ·cases hp
 ·exact h p hp⟩
theorem InR.ext {a b:List Pr} (ha:InR a) (hb:InR b) (h: ∀x,x∈a↔x∈b):a=b:=tM ha.str hb.str h
theorem Lt {l:List Pr} (h:Str l):puts [] l=l:=tM (nq List.Pairwise.nil) h fun x=>by rw[ji];simp
def IB (a b:List Pr):List Pr:=a.flatMap fun p=>(b.filter fun q=>p.2==q.1).map fun q=>(p.1,q.2)
theorem GC {a b:List Pr} {x:Pr} :x∈IB a b↔ ∃z,(x.1,z)∈a/\(z,x.2)∈b:=by
 unfold IB
 rw[List.mem_flatMap]
 constructor
 ·rintro ⟨p,hp,h⟩
  obtain ⟨q,hq,rfl⟩:=List.mem_map.1 h
  obtain ⟨hq,e⟩:=List.mem_filter.1 hq
  have e:=eq_of_beq e
  refine ⟨p.2,hp,?_⟩
  rw[e];exact hq
 ·rintro ⟨z,h1,h2⟩
  exact ⟨_,h1,List.mem_map.2 ⟨_,List.mem_filter.2 ⟨h2,by simp⟩,rfl⟩⟩
theorem EJ (b:List Pr) (p:Pr):((b.filter fun q=>p.2==q.1).map fun q=>(p.1,q.2)).length<=b.length:=by
 rw[List.length_map];exact List.length_filter_le ..
theorem GD (a b:List Pr):(IB a b).length<=a.length*b.length:=by
 unfold IB
 induction a with
 | nil=>simp
 | cons p a ih =>
  rw[List.flatMap_cons,af,al,Nat.add_mul]
  have:=EJ b p
  omega
def Qp (a b:List Pr):List Pr:=puts [] (IB a b)
theorem qu {a b:List Pr} (ha:InR a) (hb:InR b):InR (Qp a b):=InR.puts fun p hp=>by
 obtain ⟨z,h1,h2⟩:=GC.1 hp
 exact ⟨(ha.rng _ h1).1,(hb.rng _ h2).2⟩
theorem wc {a b:List Pr} {x:Pr} :x∈Qp a b↔ ∃z,(x.1,z)∈a/\(z,x.2)∈b:=by
 unfold Qp
 rw[ji,GC];simp
def T1 (a b:List Pr):List Pr:=puts [] (a++b)
theorem xU {a b:List Pr} (ha:InR a) (hb:InR b):InR (T1 a b):=InR.puts fun p hp=>by
 rcases aI hp with hp | hp
 ·exact ha.rng p hp
 ·exact hb.rng p hp
theorem Bi {a b:List Pr} {x:Pr} :x∈T1 a b↔x∈a\/x∈b:=by
 unfold T1
 rw[ji,List.mem_append];simp
theorem If {α:Type} (p:α->Bool) (x:α): [x].filter p=if p x=true then [x] else []:=by rw[List.filter_cons];rfl
theorem OQ {a b:List Pr} (hb:b.length<=1000) {i:Nat} (hi:i<a.length) {o:List Pr} (ho:o.length<=1000000) {x:List Pr} :aC (cE a b (x,(i:Int))) aP (o,0)=some (.brk (puts o ((b.filter fun q=>a[i].2==q.1).map fun q=>(a[i].1,q.2)),(b.length:Int))):=by
 have key: ∀k,(puts o (((b.take k).filter fun q=>a[i].2==q.1).map fun q=>(a[i].1,q.2))).length<=1001000:=fun k=>by
  have h1:=nr (((b.take k).filter fun q=>a[i].2==q.1).map fun q=>(a[i].1,q.2)) o
  have h2:=EJ (b.take k) a[i]
  have h3:(b.take k).length<=b.length:=by rw[aD];omega
  omega
 have:=aL (f:=cE a b (x,(i:Int))) (fun k=>(puts o (((b.take k).filter fun q=>a[i].2==q.1).map fun q=>(a[i].1,q.2)),(k:Int))) b.length (fun k hk=>by
  have hk2:=key k
  unfold cE
  simp only
  rw[eN hk,if_pos rfl,aW hi,aW hk];simp only[aa,ak (show k<9223372036854775807 by omega)]
  rw[EH _ _ (by omega),List.take_succ_eq_append_getElem hk,List.filter_append,aK];simp only[aa]
  by_cases c:(a[i].2==b[k].1)=true
  ·rw[If,if_pos c,if_pos c,List.map_cons,List.map_nil,tN];rfl
  ·rw[If,if_neg c,if_neg c,List.map_nil,List.append_nil];rfl) (by
  unfold cE
  simp only
  rw[eU];rfl) (gD (by omega))
 rw[List.take_of_length_le (aq _)] at this
 exact this
theorem GE (l m k:List Pr):puts l (m++k)=puts (puts l m) k:=by unfold puts;rw[List.foldl_append]
theorem Lu {a b:List Pr} (ha:a.length<=1000) (hb:b.length<=1000):cM a b=some (Qp a b):=by
 have key: ∀k,(puts [] (IB (a.take k) b)).length<=1000000:=fun k=>by
  have h1:=nr (IB (a.take k) b) []
  have h2:=GD (a.take k) b
  have h3:(a.take k).length*b.length<=1000*1000:=Nat.mul_le_mul (by rw[aD];omega) hb
  simp only[az] at h1
  omega
 unfold cM
 have:=aL (f:=cF a b) (fun k=>(puts [] (IB (a.take k) b),(k:Int))) a.length (fun k hk=>by
  unfold cF
  simp only
  rw[eN hk,if_pos rfl,ah (OQ hb hk (key k)),ak (by omega),List.take_succ_eq_append_getElem hk]
  unfold IB
  rw[List.flatMap_append,GE];simp) (by
  unfold cF
  simp only
  rw[eU];rfl) (gD (by omega))
 have this:aC (cF a b) aP (([] :List (Int×Int)),0)=_:=this
 rw[ah this,List.take_of_length_le (aq _)];rfl
theorem OR {b:List Pr} (hb:b.length<=1000) (p:Pr) {o:List Pr} (ho:o.length<=1000000):aC (cA b p) aP (o,0)=some (.brk (o++((b.filter fun q=>p.2==q.1).map fun q=>(p.1,q.2)),(b.length:Int))):=by
 have:=aL (f:=cA b p) (fun k=>(o++(((b.take k).filter fun q=>p.2==q.1).map fun q=>(p.1,q.2)),(k:Int))) b.length (fun k hk=>by
  have h2:=EJ (b.take k) p
  have h3:(b.take k).length<=b.length:=by rw[aD];omega
  unfold cA
  simp only
  rw[eN hk,if_pos rfl,aW hk];simp only[aa,ak (show k<9223372036854775807 by omega)]
  rw[aJ (by rw[af];simp only[al,az];omega),List.take_succ_eq_append_getElem hk,List.filter_append,aK];simp only[aa]
  by_cases c:(p.2==b[k].1)=true
  ·rw[If,if_pos c,if_pos c,List.map_cons,List.map_nil,aj];rfl
  ·rw[If,if_neg c,if_neg c,List.map_nil,List.append_nil];rfl) (by
  unfold cA
  simp only
  rw[eU];rfl) (gD (by omega))
 rw[List.take_of_length_le (aq _)] at this
 simpa using this
theorem SN {a b:List Pr} (hs:Str a) (ha:a.length<=1000) (hb:b.length<=1000):cJ a b=some (Qp a b):=by
 have key: ∀k,(IB (a.take k) b).length<=1000000:=fun k=>by
  have h2:=GD (a.take k) b
  have h3:(a.take k).length*b.length<=1000*1000:=Nat.mul_le_mul (by rw[aD];omega) hb
  omega
 unfold cJ
 rw[Gy a (by omega),xR,Lt hs];simp only[aa]
 have:=aL (f:=cB b a) (fun k=>(IB (a.take k) b,(k:Int))) a.length (fun k hk=>by
  unfold cB
  simp only
  rw[eN hk,if_pos rfl,aW hk];simp only[aa]
  rw[ah (OR hb a[k] (key k)),ak (by omega),List.take_succ_eq_append_getElem hk]
  unfold IB
  rw[List.flatMap_append];simp) (by
  unfold cB
  simp only
  rw[eU];rfl) (gD (by omega))
 have this:aC (cB b a) aP (([] :List (Int×Int)),0)=_:=this
 have h2:=key a.length
 rw[List.take_of_length_le (aq _)] at this h2
 rw[ah this];simp only
 rw[Gy _ (by omega),xR];rfl
def idR (n:Nat):List Pr:=(List.range n).map fun i:Nat=>((i:Int),(i:Int))
theorem Bj (n:Nat):idR (n+1)=idR n++ [((n:Int),(n:Int))]:=by unfold idR;rw[List.range_succ,aK];rfl
theorem Lv (n:Nat):(idR n).length=n:=by simp[idR]
theorem xV {n:Nat} {x:Pr} :x∈idR n↔x.1=x.2/\0<=x.1/\x.1<n:=by
 unfold idR
 rw[List.mem_map]
 constructor
 ·rintro ⟨i,hi,rfl⟩
  have:=List.mem_range.1 hi
  exact ⟨rfl,by show (0:Int)<=(i:Int);omega,by show (i:Int)<n;omega⟩
 ·rintro ⟨h1,h2,h3⟩
  refine ⟨x.1.toNat,List.mem_range.2 (by omega),?_⟩
  have:((x.1.toNat:Nat):Int)=x.1:=by omega
  rw[this];exact Prod.ext rfl h1
theorem Lw: ∀n,Str (idR n)
 | 0=>List.Pairwise.nil
 | n+1=>by
  rw[Bj]
  refine List.pairwise_append.2 ⟨Lw n,List.pairwise_singleton _ _,fun a ha b hb=>?_⟩
  obtain rfl:=au hb
  exact .inl (xV.1 ha).2.2
theorem zO {n:Nat} (hn:n<=5):InR (idR n):=⟨Lw n,fun p hp=>by
 obtain ⟨h1,h2,h3⟩:=xV.1 hp
 omega⟩
theorem T2 {n:Nat} (hn:n<=5):cL (n:Int)=some (idR n):=by
 unfold cL
 have:=aL (f:=cD (n:Int)) (fun k=>(idR k,(k:Int))) n (fun k hk=>by
  have:=Lv k
  unfold cD
  simp only
  rw[if_pos (by simp;omega),if_pos (by simp;omega),aJ (by simp;omega),ak (by omega),Bj];rfl) (by
  unfold cD
  simp only
  rw[if_neg (by simp)]) (gD (by omega))
 have this:aC (cD (n:Int)) aP (([] :List (Int×Int)),0)=_:=this
 rw[ah this]
theorem WX {n:Nat} (hn:n<=5):cH (n:Int)=some (idR n):=by
 unfold cH
 rw[if_neg (by simp;omega)]
 have:=aL (f:=cz (n:Int)) (fun k=>(idR k,(k:Int))) n (fun k hk=>by
  have:=Lv k
  unfold cz
  simp only
  rw[if_pos (by simp;omega),aJ (by simp;omega),ak (by omega),Bj];rfl) (by
  unfold cz
  simp only
  rw[if_neg (by simp)]) (gD (by omega))
 have this:aC (cz (n:Int)) aP (([] :List (Int×Int)),0)=_:=this
 rw[ah this]
def kZ (n:Nat) (l:List Pr):Nat->List Pr
 | 0=>idR n
 | k+1=>T1 (kZ n l k) (Qp (kZ n l k) l)
section
variable {n:Nat} {l:List Pr} (hn:n<=5) (hl:InR l)
include hn hl
theorem jq: ∀k,InR (kZ n l k)
 | 0=>zO hn
 | k+1=>xU (jq k) (qu (jq k) hl)
omit hn hl in
theorem nv {k:Nat} {x:Pr} :x∈kZ n l (k+1)↔x∈kZ n l k\/ ∃z,(x.1,z)∈kZ n l k/\(z,x.2)∈l:=by rw[kZ,Bi,wc]
omit hn hl in
theorem uU: ∀k (x:Pr),x∈kZ n l k->0<=x.1/\x.1<n
 | 0,x,h=>by
  obtain ⟨-,h1,h2⟩:=xV.1 h
  exact ⟨h1,h2⟩
 | k+1,x,h=>by
  rcases nv.1 h with h | ⟨z,h,-⟩
  ·exact uU k x h
  ·exact uU k (x.1,z) h
omit hn hl in
theorem SO {x:Int} {k:Nat} (h: ∀y,(x,y)∈kZ n l (k+1)->(x,y)∈kZ n l k): ∀y,(x,y)∈kZ n l (k+1+1)->(x,y)∈kZ n l (k+1):=fun y hy=>by
 rcases nv.1 hy with hy | ⟨z,h1,h2⟩
 ·exact hy
 ·exact nv.2 (.inr ⟨z,h z h1,h2⟩)
def GF (n:Nat) (l:List Pr) (x:Int) (k:Nat):List Nat:=(List.range 5).filter fun y:Nat=>decide ((x,(y:Int))∈kZ n l k)
theorem C6 (x:Int) (k:Nat):(∀y,(x,y)∈kZ n l (k+1)->(x,y)∈kZ n l k)\/(GF n l x k).length<(GF n l x (k+1)).length:=by
 have hsub:(GF n l x k).Sublist (GF n l x (k+1)):=by
  have:GF n l x k=(GF n l x (k+1)).filter fun y:Nat=>decide ((x,(y:Int))∈kZ n l k):=by
   unfold GF
   rw[List.filter_filter]
   refine List.filter_congr fun y _=>?_
   by_cases c:(x,(y:Int))∈kZ n l k
   ·rw[decide_eq_true c,decide_eq_true (nv.2 (.inl c))];rfl
   ·rw[decide_eq_false c];rfl
  rw[this];exact List.filter_sublist
 by_cases e:(GF n l x k).length=(GF n l x (k+1)).length
 ·left
  have heq:=hsub.eq_of_length e
  intro y hy
  have hr:=((jq hn hl (k+1)).rng _ hy).2
  have hm:y.toNat∈GF n l x (k+1):=List.mem_filter.2 ⟨List.mem_range.2 (by omega),decide_eq_true (by
   rw[show ((y.toNat:Nat):Int)=y by omega];exact hy)⟩
  rw[<-heq] at hm
  have:=of_decide_eq_true (List.mem_filter.1 hm).2
  rwa [show ((y.toNat:Nat):Int)=y by omega] at this
 ·right
  have:=hsub.length_le
  omega
theorem GG:kZ n l 5=kZ n l 4:=by
 refine (jq hn hl 5).ext (jq hn hl 4) fun p=>⟨fun hp=>?_,fun hp=>nv.2 (.inl hp)⟩
 have hx:=uU 5 p hp
 have key: ∀k,(∀y,(p.1,y)∈kZ n l (k+1)->(p.1,y)∈kZ n l k)\/k+2<=(GF n l p.1 (k+1)).length:=fun k=>by
  induction k with
  | zero =>
   rcases C6 hn hl p.1 0 with h | h
   ·exact .inl h
   ·right
    have:p.1.toNat∈GF n l p.1 0:=List.mem_filter.2 ⟨List.mem_range.2 (by omega),decide_eq_true (by
     rw[show ((p.1.toNat:Nat):Int)=p.1 by omega];exact xV.2 ⟨rfl,hx⟩)⟩
    have:=List.length_pos_of_mem this
    omega
  | succ k ih =>
   rcases ih with h | h
   ·exact .inl (SO h)
   ·rcases C6 hn hl p.1 (k+1) with h2 | h2
    ·exact .inl h2
    ·exact .inr (by omega)
 rcases key 4 with h | h
 ·exact h p.2 hp
 ·have:(GF n l p.1 5).length<=(List.range 5).length:=List.length_filter_le ..
  simp only[List.length_range] at this
  have h:6<=(GF n l p.1 5).length:=h
  omega
omit hn hl in
theorem we {i:Nat} (h:kZ n l (i+1)=kZ n l i): ∀d,kZ n l (i+d)=kZ n l i
 | 0=>rfl
 | d+1=>by
  have ih:=we h d
  rw[show i+(d+1)=(i+d)+1 from rfl,kZ,ih]
  exact h
theorem OS {i:Nat} (h:(kZ n l (i+1)).length=(kZ n l i).length):kZ n l (i+1)=kZ n l i:=by
 refine (jq hn hl (i+1)).ext (jq hn hl i) fun p=>⟨fun hp=>?_,fun hp=>nv.2 (.inl hp)⟩
 apply Classical.byContradiction
 intro hc
 have hnd:(p::kZ n l i).Nodup:=List.nodup_cons.2 ⟨hc,(jq hn hl i).str.nd⟩
 have:=hnd.length_le_of_subset (l₂:=kZ n l (i+1)) (fun q hq=>by
  rcases ay hq with rfl | hq
  ·exact hp
  ·exact nv.2 (.inl hq))
 simp only[al] at this
 omega
theorem Lx:aC (cR l) aP (idR n,0)=some (.brk (kZ n l 5,5)):=
 aL (f:=cR l) (fun k=>(kZ n l k,(k:Int))) 5 (fun k hk=>by
  have h1:=(jq hn hl k).len
  have h2:=hl.len
  have h3:=(qu (jq hn hl k) hl).len
  unfold cR
  simp only
  rw[if_pos (by simp;omega),Lu (by omega) (by omega)];simp only[aa]
  rw[xP (by omega) (by omega),ak (by omega)];rfl) (by
  unfold cR
  simp) (by unfold aP;omega)
theorem SP:aC (eh l) aP (idR n)=some (.ret (kZ n l 5)):=by
 obtain ⟨o,e,hQ⟩:=b9 (f:=eh l) (fun i s=>s=kZ n l i) (fun o=>o= .ret (kZ n l 5)) 4 (s:=idR n) (by
  rintro i s hi rfl
  have h1:=(jq hn hl i).len
  have h2:=hl.len
  have h3:=(qu (jq hn hl i) hl).len
  unfold eh
  rw[SN (jq hn hl i).str (by omega) (by omega)];simp only[aa]
  rw[SM (by omega) (by omega)];simp only[aa]
  by_cases c:(kZ n l (i+1)).length=(kZ n l i).length
  ·right
   have e:=OS hn hl c
   refine ⟨.ret (kZ n l i),if_pos (by
    show (((kZ n l (i+1)).length:Int)==((kZ n l i).length:Int))=true
    rw[c];simp),fun s' h=>(by cases h),?_⟩
   have h4:=we e (5 - i)
   rw[show i+(5 - i)=5 by omega] at h4
   rw[h4]
  ·left
   have hi4:i<4:=by
    apply Classical.byContradiction
    intro h
    obtain rfl:i=4:=by omega
    exact c (by rw[GG hn hl])
   exact ⟨hi4,kZ n l (i+1),if_neg (by
    show¬(((kZ n l (i+1)).length:Int)==((kZ n l i).length:Int))=true
    simp;omega),rfl⟩) rfl (by unfold aP;omega)
 rw[e,hQ]
theorem OT (h0:1<=n): ∃r,cY (n:Int) l=some r/\fS (n:Int) l=some r/\InR r:=by
 have hlen:=hl.len
 obtain ⟨b,eb⟩:=Ln l (by omega)
 have es:fL l=some b:=Bc.trans eb
 unfold cY fS
 rw[IA,Gz];simp only[aa]
 rw[if_pos (by simp;omega),if_pos (by simp;omega),es,eb];simp only[aa]
 cases b with
 | false=>exact ⟨[],rfl,rfl,InR.nil⟩
 | true =>
  simp only[if_true]
  rw[T2 hn,WX hn];simp only[aa]
  rw[ah (Lx hn hl),bK (SP hn hl)]
  exact ⟨_,rfl,rfl,jq hn hl 5⟩
theorem OU (h0:1<=n) (low:Int) {high:Int} (hh:0<=high/\high<=3): ∃r,dL (n:Int) l low high=some r/\iy (n:Int) l low high=some r/\InR r:=by
 have hlen:=hl.len
 obtain ⟨b,eb⟩:=Ln l (by omega)
 have es:fL l=some b:=Bc.trans eb
 unfold dL iy
 have hnn:decide (1<=(n:Int)/\(n:Int)<=5)=true:=decide_eq_true ⟨by omega,by omega⟩
 have hh':decide (0<=high/\high<=3)=true:=decide_eq_true hh
 simp only[IA,Gz,aa,hnn,if_true,es,eb,hh']
 cases b with
 | false=>exact ⟨[],rfl,rfl,InR.nil⟩
 | true =>
  simp only[if_true]
  by_cases c:low<0
  ·simp only[decide_eq_true c,if_true];exact ⟨[],rfl,rfl,InR.nil⟩
  simp only[decide_eq_false c,Bool.false_eq_true,if_false]
  rw[T2 hn,WX hn];simp only[aa]
  have step: ∀(i:Nat) (s:List Pr×List Pr×Int),(InR s.1/\InR s.2.1/\s.2.2=(i:Int))->i<high.toNat+1-> ∃s',bm l low high s=some (.nxt s')/\cK l low high s=some (.nxt s')/\InR s'.1/\InR s'.2.1/\s'.2.2=((i+1:Nat):Int):=by
   rintro i ⟨o,x,k⟩ ⟨h1,h2,h3⟩ hi
   have h3:k=(i:Int):=h3
   subst h3
   have h1:InR o:=h1
   have h2:InR x:=h2
   have l1:o.length<=25:=h1.len
   have l2:x.length<=25:=h2.len
   have hle:decide ((i:Int)<=high)=true:=decide_eq_true (by omega)
   unfold bm cK
   simp only[hle,if_true]
   rw[Lu (a:=x) (by omega) (by omega),SN (a:=x) h2.str (by omega) (by omega),ak (show i<9223372036854775807 by omega)]
   rw[xP (a:=o) (b:=x) (by omega) (by omega),SM (a:=o) (b:=x) (by omega) (by omega)]
   by_cases d:(i:Int)≥low
   ·simp only[decide_eq_true d,if_true,aa]
    exact ⟨_,rfl,rfl,xU h1 h2,qu h2 hl,rfl⟩
   ·simp only[decide_eq_false d,Bool.false_eq_true,if_false,aa]
    exact ⟨_,rfl,rfl,h1,qu h2 hl,rfl⟩
  have stop: ∀s:List Pr×List Pr×Int,s.2.2=((high.toNat+1:Nat):Int)->bm l low high s=some (.brk s)/\cK l low high s=some (.brk s):=by
   rintro ⟨o,x,k⟩ h3
   have h3:k=((high.toNat+1:Nat):Int):=h3
   subst h3
   have hle:decide (((high.toNat+1:Nat):Int)<=high)=false:=decide_eq_false (by omega)
   unfold bm cK
   simp only[hle,Bool.false_eq_true,if_false,and_self]
  have both: ∀f (i:Nat) (s:List Pr×List Pr×Int),(InR s.1/\InR s.2.1/\s.2.2=(i:Int))->i<=high.toNat+1->aC (cK l low high) f s=aC (bm l low high) f s:=by
   intro f
   induction f with
   | zero=>intro i s _ _;rfl
   | succ f ih =>
    intro i s hs hi
    rw[aC,aC]
    by_cases d:i<high.toNat+1
    ·obtain ⟨s',e1,e2,h1⟩:=step i s hs d
     rw[e1,e2]
     exact ih (i+1) s' h1 (by omega)
    ·obtain rfl:i=high.toNat+1:=by omega
     obtain ⟨e1,e2⟩:=stop s hs.2.2
     rw[e1,e2]
  obtain ⟨s',e,h1,-,-⟩:=dD (f:=bm l low high) (fun i s=>InR s.1/\InR s.2.1/\s.2.2=(i:Int)) (high.toNat+1) (fun i s hi hI=>by
   obtain ⟨s',e1,-,h1⟩:=step i s hI hi
   exact ⟨s',e1,h1⟩) (fun s hI=>(stop s hI.2.2).1) (s:=(([] :List Pr),idR n,0)) ⟨InR.nil,zO hn,rfl⟩ (gD (by omega))
  rw[both aP 0 (([] :List Pr),idR n,0) ⟨InR.nil,zO hn,rfl⟩ (by omega),ah e]
  exact ⟨_,rfl,rfl,h1⟩
end
end D
namespace D
open Go.RowKit
abbrev Tok:=Int×Int×Int×Int
def ar (t:Tok):Int:=
 if t.1=1\/t.1=2 then (if t.2.1=0/\t.2.2.1=0/\t.2.2.2=0 then 0 else -1)
 else if t.1=3 then (if (0<=t.2.1/\t.2.1<=8)/\t.2.2.1=0/\t.2.2.2=0 then 0 else -1)
 else if t.1=4\/t.1=5 then (if t.2.1=0/\t.2.2.1=0/\t.2.2.2=0 then 2 else -1)
 else if t.1=6 then (if t.2.1=0/\t.2.2.1=0/\t.2.2.2=0 then 1 else -1)
 else if t.1=7 then (if t.2.1=0/\(0<=t.2.2.1/\t.2.2.1<=t.2.2.2)/\(1<=t.2.2.2/\t.2.2.2<=3) then 1 else -1)
 else -1
theorem OV (x:Int):kM x=some (decide (0<=x/\x<=8)):=by unfold kM;rw[IA];rfl
theorem Bk (x:Int):fK x=some (decide (0<=x/\x<=8)):=by unfold fK;rw[Gz];rfl
theorem XG (t:Tok):mi t=some (ar t):=by
 obtain ⟨k,l,lo,hi⟩:=t
 unfold mi ar
 simp only[OV,IA,aa]
 by_cases h1:k=1
 ·subst h1;simp;grind
 by_cases h2:k=2
 ·subst h2;simp;grind
 by_cases h3:k=3
 ·subst h3;simp;grind
 by_cases h4:k=4
 ·subst h4;simp;grind
 by_cases h5:k=5
 ·subst h5;simp;grind
 by_cases h6:k=6
 ·subst h6;simp;grind
 by_cases h7:k=7
 ·subst h7;simp;grind
 simp[h1,h2,h3,h4,h5,h6,h7]
theorem Vg (t:Tok):oV t=some (decide (0<=ar t)):=by
 obtain ⟨k,l,lo,hi⟩:=t
 unfold oV ar
 simp only[Bk,Gz,aa]
 by_cases h1:k=1
 ·subst h1;simp;grind
 by_cases h2:k=2
 ·subst h2;simp;grind
 by_cases h3:k=3
 ·subst h3;simp only[]
  by_cases a:0<=l/\l<=8 <;> by_cases b:lo=0 <;> by_cases c:hi=0 <;> simp[a,b,c]
 by_cases h4:k=4
 ·subst h4;simp;grind
 by_cases h5:k=5
 ·subst h5;simp;grind
 by_cases h6:k=6
 ·subst h6;simp;grind
 by_cases h7:k=7
 ·subst h7;simp only[]
  by_cases a:l=0 <;> by_cases b:0<=lo/\lo<=hi <;> by_cases c:1<=hi/\hi<=3 <;> simp[a,b,c]
 simp[h1,h2,h3,h4,h5,h6,h7]
theorem tQ (t:Tok): -1<=ar t/\ar t<=2:=by
 unfold ar
 grind
theorem fJ {t:Tok} (h:0<=ar t):(ar t=2/\(t.1=4\/t.1=5))\/(ar t=1/\(t.1=6\/t.1=7))\/(ar t=0/\(t.1=1\/t.1=2\/t.1=3)):=by
 unfold ar at h⊢
 grind
theorem rG {t:Tok} (h:0<=ar t) (k:t.1=7):(0<=t.2.2.1/\t.2.2.1<=t.2.2.2)/\(1<=t.2.2.2/\t.2.2.2<=3):=by
 unfold ar at h
 grind
mutual
def flat:Tr Tok->List Tok
 | .nil=>[]
 | .node t ks=>jr ks++ [t]
def jr:List (Tr Tok)->List Tok
 | [] =>[]
 | k::ks=>flat k++jr ks
end
inductive WT:Tr Tok->Prop
 | node {t:Tok} {ks:List (Tr Tok)} :ar t=(ks.length:Int)->(∀k,k∈ks->WT k)->WT (.node t ks)
theorem oA: ∀(a b:List (Tr Tok)),jr (a++b)=jr a++jr b
 | [],b=>rfl
 | k::a,b=>by rw[List.cons_append,jr,jr,oA a b,aj]
theorem kX (x:Tr Tok):jr [x] =flat x:=by rw[jr,jr,List.append_nil]
theorem Ly (x y:Tr Tok):jr [x,y] =flat x++flat y:=by rw[jr,kX]
theorem WT.cases {x:Tr Tok} (h:WT x):(∃t,x= .node t [] /\ar t=0)\/(∃t a,x= .node t [a] /\ar t=1/\WT a)\/ ∃t a b,x= .node t [a,b] /\ar t=2/\WT a/\WT b:=by
 cases h with
 | @node t ks h1 h2 =>
  have:=(tQ t).2
  match ks,h1,h2 with
  | [],h1,h2=>exact .inl ⟨t,rfl,h1⟩
  | [a],h1,h2=>exact .inr (.inl ⟨t,a,rfl,h1,h2 a (by simp)⟩)
  | [a,b],h1,h2=>exact .inr (.inr ⟨t,a,b,rfl,h1,h2 a (by simp),h2 b (by simp)⟩)
  | _::_::_::_,h1,h2=>simp at h1;omega
theorem WT.ind {p:Tr Tok->Prop} (h0: ∀t,ar t=0->p (.node t [])) (h1: ∀t a,ar t=1->WT a->p a->p (.node t [a])) (h2: ∀t a b,ar t=2->WT a->WT b->p a->p b->p (.node t [a,b])) {x:Tr Tok} (h:WT x):p x:=by
 induction h with
 | @node t ks e k ih =>
  have:=(tQ t).2
  match ks,e,k,ih with
  | [],e,k,ih=>exact h0 t e
  | [a],e,k,ih=>exact h1 t a e (k a (by simp)) (ih a (by simp))
  | [a,b],e,k,ih=>exact h2 t a b e (k a (by simp)) (k b (by simp)) (ih a (by simp)) (ih b (by simp))
  | _::_::_::_,e,_,_=>simp at e;omega
theorem sy (t:Tok):flat (.node t [])= [t]:=by rw[flat,jr];rfl
theorem rj (t:Tok) (a:Tr Tok):flat (.node t [a])=flat a++ [t]:=by rw[flat,kX]
theorem lC (t:Tok) (a b:Tr Tok):flat (.node t [a,b])=(flat a++flat b)++ [t]:=by rw[flat,Ly]
theorem WT.pos {x:Tr Tok} (h:WT x):1<=(flat x).length:=by
 cases h with
 | node h1 h2=>rw[flat];simp
def stp (s:List (Tr Tok)) (t:Tok):Option (List (Tr Tok)):=if ar t<0\/(s.length:Int)<ar t then none else some (s.take (s.length - (ar t).toNat)++ [.node t (s.drop (s.length - (ar t).toNat))])
def run:List (Tr Tok)->List Tok->Option (List (Tr Tok))
 | s,[] =>some s
 | s,t::l=>(stp s t).bind fun s'=>run s' l
theorem Bl: ∀(a:List Tok) {b:List Tok} {s:List (Tr Tok)},run s (a++b)=(run s a).bind fun s'=>run s' b
 | [],b,s=>rfl
 | t::a,b,s=>by
  rw[List.cons_append,run,run]
  cases stp s t with
  | none=>rfl
  | some s'=>exact Bl a
theorem tR {a:List Tok} {t:Tok} {s:List (Tr Tok)} :run s (a++ [t])=(run s a).bind fun s'=>stp s' t:=by
 rw[Bl]
 congr 1
 funext s'
 rw[run]
 cases stp s' t <;> rfl
theorem Qq: ∀ {l:List Tok} {s s':List (Tr Tok)},run s l=some s'->(∀k,k∈s->WT k)->(∀k,k∈s'->WT k)/\jr s'=jr s++l
 | [],s,s',h,hs=>by
  obtain rfl:=ae h
  exact ⟨hs,by simp⟩
 | t::l,s,s',h,hs=>by
  rw[run] at h
  unfold stp at h
  by_cases c:ar t<0\/(s.length:Int)<ar t
  ·rw[if_pos c] at h;cases h
  ·rw[if_neg c] at h
   have hlen:(s.drop (s.length - (ar t).toNat)).length=(ar t).toNat:=by rw[a8];omega
   obtain ⟨k1,k2⟩:=Qq (show run _ l=some s' from h) fun k hk=>by
    rcases aI hk with hk | hk
    ·exact hs k (List.mem_of_mem_take hk)
    ·obtain rfl:=au hk
     exact .node (by rw[hlen];omega) fun k hk=>hs k (List.mem_of_mem_drop hk)
   refine ⟨k1,?_⟩
   rw[k2,oA,kX,flat,<-aj,<-oA,List.take_append_drop]
   simp
theorem OW {x:Tr Tok} (h:WT x): ∀s,run s (flat x)=some (s++ [x]):=by
 refine WT.ind (p:=fun x=> ∀s,run s (flat x)=some (s++ [x])) ?_ ?_ ?_ h
 ·intro t e s
  rw[sy,run,stp,if_neg (by omega),e]
  simp[run]
 ·intro t a e _ ia s
  rw[rj,tR,ia]
  show stp (s++ [a]) t=_
  rw[stp,if_neg (by simp;omega),e]
  simp
 ·intro t a b e _ _ ia ib s
  rw[lC,tR,Bl,ia]
  show ((run (s++ [a]) (flat b)).bind fun s'=>stp s' t)=_
  rw[ib]
  show stp (s++ [a] ++ [b]) t=_
  rw[stp,if_neg (by simp;omega),e]
  have:(s++ [a] ++ [b]).length - (2:Int).toNat=s.length:=by simp
  rw[this]
  simp
def isX (e:List Tok):Bool:=match run [] e with
 | some [_] =>true
 | _=>false
theorem zP {e:List Tok} (h:isX e=true): ∃x,run [] e=some [x] /\WT x/\flat x=e:=by
 unfold isX at h
 split at h
 ·rename_i x hx
  obtain ⟨k1,k2⟩:=Qq hx (fun k hk=>by cases hk)
  refine ⟨x,hx,k1 x (by simp),?_⟩
  rw[kX] at k2
  rw[k2];rfl
 ·cases h
theorem Lz {l:List Tok} : ∀ {s s':List (Tr Tok)},run s l=some s'->s'.length<=s.length+l.length:=by
 induction l with
 | nil=>intro s s' h;obtain rfl:=ae h;simp
 | cons t l ih =>
  intro s s' h
  rw[run] at h
  obtain ⟨s1,h1,h2⟩:=Option.bind_eq_some_iff.1 h
  have h3:=ih h2
  unfold stp at h1
  split at h1
  ·cases h1
  ·obtain rfl:=ae h1
   simp only[af,aD,al,az] at h3⊢
   omega
theorem tS {e:List Tok} {i:Nat} (h:i<e.length):e.take (i+1)=e.take i++ [nth e (i:Int)]:=by
 rw[List.take_succ_eq_append_getElem h,bM h]
theorem wg {e:List Tok} {i:Nat} (h:i<e.length) {st:List (Tr Tok)} (h1:run [] (e.take i)=some st) (h2:stp st (nth e (i:Int))=none):run [] e=none:=by
 have:run [] (e.take (i+1))=none:=by rw[tS h,tR,h1];exact h2
 rw[<-List.take_append_drop (i+1) e,Bl,this];rfl
theorem OX {e:List Tok} (he:e.length<=1048576):qL e=some (isX e):=by
 obtain ⟨o,eo,hq⟩:=b9 (f:=oR e) (fun i s=> ∃st,s=((st.length:Int),(i:Int))/\run [] (e.take i)=some st) (fun o=>(o= .ret false/\run [] e=none)\/ ∃st,o= .brk ((st.length:Int),(e.length:Int))/\run [] e=some st) e.length (s:=(0,0)) (by
  rintro i s hi ⟨st,rfl,hst⟩
  have hl:=Lz hst
  simp only[az,aD] at hl
  unfold oR
  simp only[kl]
  by_cases c:i<e.length
  ·rw[if_pos (by simp;omega),aF (by omega) (by omega)];simp only[aa]
   rw[XG];simp only[aa]
   have hr:=tQ (nth e (i:Int))
   by_cases c1:ar (nth e (i:Int))<0
   ·refine .inr ⟨_,by rw[if_pos (by simpa using c1)],(fun s' e=>by cases e),.inl ⟨rfl,wg c hst ?_⟩⟩
    rw[stp,if_pos (.inl c1)]
   ·rw[if_neg (by simpa using c1)]
    by_cases c2:ar (nth e (i:Int))>(st.length:Int)
    ·refine .inr ⟨_,by rw[if_pos (by simpa using c2)],(fun s' e=>by cases e),.inl ⟨rfl,wg c hst ?_⟩⟩
     rw[stp,if_pos (.inr c2)]
    ·rw[if_neg (by simpa using c2)]
     refine .inl ⟨c,_,rfl,st.take (st.length - (ar (nth e (i:Int))).toNat)++ [.node (nth e (i:Int)) (st.drop (st.length - (ar (nth e (i:Int))).toNat))],?_,?_⟩
     ·rw[bQ (n:=(st.length:Int) - ar (nth e (i:Int))) (by omega) (by omega),bQ (by omega) (by omega),ak (by omega)]
      congr 1
      simp only[af,aD,al,az]
      omega
     ·rw[tS c,tR,hst]
      show stp st _=_
      rw[stp,if_neg (by omega)]
  ·obtain rfl:i=e.length:=by omega
   rw[List.take_of_length_le (by omega)] at hst
   exact .inr ⟨_,by rw[if_neg (by simp)],(fun s' e=>by cases e),.inr ⟨st,rfl,hst⟩⟩) ⟨[],rfl,rfl⟩ (gD (by omega))
 unfold qL
 rcases hq with ⟨rfl,h⟩ | ⟨st,rfl,h⟩
 ·rw[bK eo];unfold isX;rw[h]
 ·rw[ah eo];unfold isX;rw[h]
  match st with
  | [] =>rfl
  | [_] =>rfl
  | _::_::_=>simp;omega
theorem WY {t:Tok} (h:0<=ar t):(Option.bind ((if t.1==4 then (some (t.1==4)) else (some (t.1==5)):Option Bool)) (fun s3=>if s3 then (some 2) else (Option.bind ((if t.1==6 then (some (t.1==6)) else (some (t.1==7)):Option Bool)) (fun s4=>if s4 then (some 1) else (some 0)))):Option Int)=some (ar t):=by
 rcases fJ h with ⟨e,k | k⟩ | ⟨e,k | k⟩ | ⟨e,k | k | k⟩ <;> rw[e] <;> simp[k]
theorem SQ (t:Tok): ∃n:Int,(Option.bind ((if t.1==4 then (some (t.1==4)) else (some (t.1==5)):Option Bool)) (fun s3=>if s3 then (some 2) else (Option.bind ((if t.1==6 then (some (t.1==6)) else (some (t.1==7)):Option Bool)) (fun s4=>if s4 then (some 1) else (some 0)))):Option Int)=some n:=by
 by_cases h4:t.1=4
 ·exact ⟨2,by simp[h4]⟩
 by_cases h5:t.1=5
 ·exact ⟨2,by simp[h5]⟩
 by_cases h6:t.1=6
 ·exact ⟨1,by simp[h6]⟩
 by_cases h7:t.1=7
 ·exact ⟨1,by simp[h7]⟩
 exact ⟨0,by simp[h4,h5,h6,h7]⟩
def sA (e:List Tok):Tr Tok:=match run [] e with
 | some [x] =>x
 | _=>.nil
theorem wh {e:List Tok} (he:e.length<=1048576):j8 e=some (sA e):=by
 obtain ⟨o,eo,hq⟩:=b9 (f:=oW e) (fun i s=> ∃st,s=(st,(i:Int))/\run [] (e.take i)=some st) (fun o=>(o= .ret Tr.nil/\run [] e=none)\/ ∃st,o= .brk (st,(e.length:Int))/\run [] e=some st) e.length (s:=([],0)) (by
  rintro i s hi ⟨st,rfl,hst⟩
  have hl:=Lz hst
  simp only[az,aD] at hl
  unfold oW
  simp only[kl]
  by_cases c:i<e.length
  ·rw[if_pos (by simp;omega),aF (by omega) (by omega)];simp only[aa]
   have hr:=tQ (nth e (i:Int))
   by_cases c1:ar (nth e (i:Int))<0
   ·obtain ⟨n,hn⟩:=SQ (nth e (i:Int))
    rw[hn];simp only[aa]
    rw[Vg];simp only[aa]
    refine .inr ⟨_,by rw[if_neg (by simp;omega)],(fun s' e=>by cases e),.inl ⟨rfl,wg c hst ?_⟩⟩
    rw[stp,if_pos (.inl c1)]
   ·rw[WY (by omega)];simp only[aa]
    rw[Vg];simp only[aa]
    rw[if_pos (by simp;omega),bQ (n:=(st.length:Int) - ar (nth e (i:Int))) (by omega) (by omega)]
    by_cases c2:ar (nth e (i:Int))>(st.length:Int)
    ·refine .inr ⟨_,by rw[if_pos (by simp;omega)],(fun s' e=>by cases e),.inl ⟨rfl,wg c hst ?_⟩⟩
     rw[stp,if_pos (.inr c2)]
    ·rw[if_neg (by simp;omega),show∀p:Prop,∀ [Decidable p],p->chk p=some () from fun p _ hp=>by unfold chk;rw[if_pos hp]]
     ·simp only[aa]
      have e1:((st.length:Int) - ar (nth e (i:Int))).toNat=st.length - (ar (nth e (i:Int))).toNat:=by omega
      rw[e1,aJ (by simp;omega)];simp only[aa]
      rw[aJ (by simp;omega)];simp only[aa,List.nil_append,ak (show i<9223372036854775807 by omega)]
      refine .inl ⟨c,_,rfl,_,rfl,?_⟩
      rw[tS c,tR,hst]
      show stp st _=_
      rw[stp,if_neg (by omega)]
     ·omega
  ·obtain rfl:i=e.length:=by omega
   rw[List.take_of_length_le (by omega)] at hst
   exact .inr ⟨_,by rw[if_neg (by simp)],(fun s' e=>by cases e),.inr ⟨st,rfl,hst⟩⟩) ⟨[],rfl,rfl⟩ (gD (by omega))
 unfold j8
 rcases hq with ⟨rfl,h⟩ | ⟨st,rfl,h⟩
 ·rw[bK eo];unfold sA;rw[h]
 ·rw[ah eo];unfold sA;rw[h]
  match st with
  | [] =>rfl
  | [x] =>rfl
  | _::_::_ =>
   simp only
   rw[if_pos (by simp;omega)]
theorem lY {x:Tr Tok} (h:WT x):sA (flat x)=x:=by unfold sA;rw[OW h];rfl
theorem OY {e:List Tok} (he:e.length<=1048576):qO e=some (isX e):=by
 unfold qO
 rw[wh he];simp only[aa]
 congr 1
 by_cases h:isX e=true
 ·rw[h]
  obtain ⟨x,h1,h2,h3⟩:=zP h
  have:sA e=x:=by unfold sA;rw[h1]
  rw[this]
  cases h2 with
  | node _ _=>rfl
 ·have:sA e= .nil:=by
   unfold sA
   unfold isX at h
   split
   ·rename_i x hx;rw[hx] at h;exact absurd rfl h
   ·rfl
  rw[this,Bool.eq_false_iff.2 h];rfl
theorem sB {e:List Tok} (he:e.length<=1048576):fu e=some (decide (e.length<=24)&&isX e):=by
 unfold fu
 rw[OX he]
 by_cases c:e.length<=24
 ·rw[if_pos (by simp;omega)];simp[c]
 ·rw[if_neg (by simp;omega)];simp[c]
theorem xW {e:List Tok} (he:e.length<=1048576):gN e=some (decide (e.length<=24)&&isX e):=by
 unfold gN
 rw[OY he]
 by_cases c:e.length<=24
 ·rw[if_pos (by simp;omega)];simp[c]
 ·rw[if_neg (by simp;omega)];simp[c]
theorem dX {p:Prop} [Decidable p] (h:p):chk p=some ():=by unfold chk;rw[if_pos h]
theorem SR {A:List Tok} {x:Tr Tok} (hx:WT x) (hl:(A++flat x).length<=1000000):eS (A++flat x)=some (A.length:Int):=by
 obtain ⟨s',e,ks,q1,q2,q3⟩: ∃s',aC (kz (A++flat x)) aP (1,((A++flat x).length:Int))=some (.brk s')/\ ∃ks:List (Tr Tok),ks= [] /\s'.2=(A.length:Int)/\True:=by
  obtain ⟨o,eo,hq⟩:=b9 (f:=kz (A++flat x)) (fun i s=> ∃ks:List (Tr Tok),(∀k,k∈ks->WT k)/\s=((ks.length:Int),(((A++jr ks).length:Nat):Int))/\i+(jr ks).length=(flat x).length/\(A++flat x).take (A++jr ks).length=A++jr ks) (fun o=> ∃s',o= .brk s'/\s'.2=(A.length:Int)) (flat x).length (s:=(1,((A++flat x).length:Int))) (by
   rintro i s hi ⟨ks,hw,rfl,hlen,htk⟩
   unfold kz
   simp only[kl]
   rcases List.eq_nil_or_concat ks with rfl | ⟨ks',y,rfl⟩
   ·refine .inr ⟨_,by rw[if_neg (by simp)],(fun s' e=>by cases e),_,rfl,?_⟩
    simp[jr]
   ·have hy:=hw y (by simp)
    cases hy with
    | @node t cs h1 h2 =>
     have hfl:jr (ks'++ [.node t cs])=jr (ks'++cs)++ [t]:=by rw[oA,kX,flat,oA,aj]
     rw[List.concat_eq_append,hfl] at hlen htk⊢
     simp only[af,al,az] at hlen htk hl⊢
     rw[if_pos (by simp <;> omega)]
     have hpos:IntKind.i64.wrap (((A.length+((jr (ks'++cs)).length+1):Nat):Int) - 1)=((A.length+(jr (ks'++cs)).length:Nat):Int):=by
      rw[bQ (by omega) (by omega)];omega
     have hget:nth (A++flat x) ((A.length+(jr (ks'++cs)).length:Nat):Int)=t:=by
      have hlt:A.length+(jr (ks'++cs)).length<(A++flat x).length:=by rw[af];omega
      have e1:=congrArg (fun l:List Tok=>l[A.length+(jr (ks'++cs)).length]?) htk
      rw[List.getElem?_take_of_lt (by omega),List.getElem?_eq_getElem hlt,<-aj,List.getElem?_append_right (by rw[af];omega),af] at e1
      rw[bM hlt]
      simpa using e1
     rw[hpos,aF (by omega) (by simp only[af];omega),hget];simp only[aa]
     rw[XG,h1];simp only[aa]
     have hcl:(cs.length:Int)<=2:=by rw[<-h1];exact (tQ t).2
     have hkl:ks'.length<=(jr (ks'++cs)).length+1000000:=by
      have: ∀l:List (Tr Tok),(∀k,k∈l->WT k)->l.length<=(jr l).length:=by
       intro l
       induction l with
       | nil=>intro _;simp
       | cons k l ih =>
        intro h
        have h1:=(h k (by simp)).pos
        have h2:=ih fun k hk=>h k (by simp[hk])
        rw[jr];simp only[al,af];omega
      have:=this ks' fun k hk=>hw k (by simp[hk])
      rw[oA,af];omega
     refine .inl ⟨by omega,_,rfl,ks'++cs,fun k hk=>?_,?_,by omega,?_⟩
     ·rcases aI hk with hk | hk
      ·exact hw k (by simp[hk])
      ·exact h2 k hk
     ·rw[bQ (n:=((ks'.length+1:Nat):Int) - 1) (by omega) (by omega),bQ (by omega) (by omega)]
      congr 1
      (simp only[af]) <;> omega
     ·have e1:=congrArg (List.take (A++jr (ks'++cs)).length) htk
      rw[List.take_take,Nat.min_eq_left (by rw[af];omega),<-aj,List.take_left] at e1
      rw[af] at e1
      exact e1) ⟨[x],fun k hk=>by (obtain rfl:=au hk;exact hx),by rw[kX];rfl,by rw[kX];omega,by rw[kX,List.take_length]⟩ (gD (by rw[af] at hl;omega))
  obtain ⟨s',rfl,h2⟩:=hq
  exact ⟨s',eo,[],rfl,h2,trivial⟩
 unfold eS
 rw[ah e,q2]
end D
namespace D
open Go.RowKit
def xX (g:GrT) (c x:Int):Bool:=decide (6<=c/\c<=8/\nth g.1 x=c - 6)
section
variable {g:GrT} (G:GOk g) (hi:aQ g=some true) (hs:a6 g=some true) {c:Int} (hc:0<=c/\c<=8)
include G hi hs hc
theorem SS {x:Int} (hx:0<=x/\x<g.1.length):o7 g x c=some (xX g c x):=by
 have hn:=G.n5
 unfold o7 xX
 simp only[kl]
 rw[hs];simp only[aa,if_true]
 rw[kV (by omega),IA,IA];simp only[aa]
 rw[if_pos (by simp;omega),aF hx.1 hx.2,bQ (by omega) (by omega)];simp only[aa]
 by_cases d:6<=c/\c<=8
 ·rw[if_pos (decide_eq_true d)]
  congr 1
  rw[Bool.eq_iff_iff];simp[d]
 ·rw[if_neg (by simpa using d),decide_eq_false fun h=>d ⟨h.1,h.2.1⟩]
theorem SU {x:Int} (hx:0<=x/\x<g.1.length):o6 g x c=some (xX g c x):=by
 have hn:=G.n5
 have hv:=G.val _ (bB hx.1 hx.2)
 unfold o6 xX
 simp only[kl]
 rw[hi];simp only[aa,if_true]
 rw[kV (by omega),Gz,Bk];simp only[aa]
 rw[if_pos (by simp;omega),if_pos (by simp;omega),aF hx.1 hx.2];simp only[aa]
 rw[bQ (by omega) (by omega)]
 congr 1
 rw[Bool.eq_iff_iff]
 simp
 omega
def rk (g:GrT) (c:Int):Nat->List Pr
 | 0=>[]
 | k+1=>if xX g c k=true then rk g c k++ [((k:Int),(k:Int))] else rk g c k
omit G hi hs hc in
theorem xY (g:GrT) (c:Int): ∀k,(rk g c k).length<=k
 | 0=>aq _
 | k+1=>by
  have:=xY g c k
  rw[rk];split <;> simp <;> omega
omit G hi hs hc in
theorem tT {x:Pr} : ∀k,(x∈rk g c k↔ ∃i:Nat,i<k/\xX g c i=true/\x=((i:Int),(i:Int)))
 | 0=>by simp[rk]
 | k+1=>by
  have ih:=tT (x:=x) k
  rw[rk]
  split
  ·rename_i d
   rw[List.mem_append,ih,List.mem_singleton]
   constructor
   ·rintro (⟨i,h1,h2⟩ | h)
    ·exact ⟨i,by omega,h2⟩
    ·exact ⟨k,by omega,d,h⟩
   ·rintro ⟨i,h1,h2,h3⟩
    by_cases e:i=k
    ·subst e;exact .inr h3
    ·exact .inl ⟨i,by omega,h2,h3⟩
  ·rename_i d
   rw[ih]
   constructor
   ·rintro ⟨i,h1,h2⟩;exact ⟨i,by omega,h2⟩
   ·rintro ⟨i,h1,h2,h3⟩
    by_cases e:i=k
    ·subst e;exact absurd h2 d
    ·exact ⟨i,by omega,h2,h3⟩
def edL (c:Int) (e:EdT):List Pr:=(if (2*e.2.2.2==c)=true then [(e.2.1,e.2.2.1)] else [])++(if (2*e.2.2.2+1==c)=true then [(e.2.2.1,e.2.1)] else [])
omit G hi hs hc in
theorem SV (c:Int) (es:List EdT):(es.flatMap (edL c)).length<=2*es.length:=mJ fun e _=>by
 unfold edL
 rw[af]
 split <;> split <;> simp
omit G hi hs hc in
theorem xZ {e:EdT} {x:Pr} :x∈edL c e↔(2*e.2.2.2=c/\x=(e.2.1,e.2.2.1))\/(2*e.2.2.2+1=c/\x=(e.2.2.1,e.2.1)):=by
 unfold edL
 rw[List.mem_append]
 by_cases h1:2*e.2.2.2=c <;> by_cases h2:2*e.2.2.2+1=c <;> simp[h1,h2]
def Qr (g:GrT) (c:Int):List Pr:=puts (puts [] (rk g c g.1.length)) (g.2.flatMap (edL c))
theorem Vh:gy g c=some (Qr g c):=by
 have hn:=G.n5
 have hm:=G.m
 unfold gy
 simp only[kl]
 rw[hs];simp only[aa,if_true]
 have:=aL (f:=dj g c) (fun k=>(puts [] (rk g c k),(k:Int))) g.1.length (fun k hk=>by
  have h1:=nr (rk g c k) []
  have h2:=xY g c k
  simp only[az] at h1
  unfold dj
  simp only[kl]
  rw[if_pos (by simp;omega),SS G hi hs hc ⟨by omega,by omega⟩,ak (by omega),EH _ _ (by omega),rk];simp only[aa]
  by_cases d:xX g c (k:Int)=true
  ·rw[if_pos d,if_pos d,tN];rfl
  ·rw[if_neg d,if_neg d];rfl) (by
  unfold dj
  simp only
  rw[if_neg (by simp)]) (gD (by omega))
 have this:aC (dj g c) aP (([] :List (Int×Int)),0)=_:=this
 rw[ah this];simp only
 have h2:=xY g c g.1.length
 have h1:=nr (rk g c g.1.length) []
 simp only[az] at h1
 have:=aL (f:=dk g c) (fun k=>(puts (puts [] (rk g c g.1.length)) ((g.2.take k).flatMap (edL c)),(k:Int))) g.2.length (fun k hk=>by
  have h3:=nr ((g.2.take k).flatMap (edL c)) (puts [] (rk g c g.1.length))
  have h4:=SV c (g.2.take k)
  have h5:(g.2.take k).length<=12:=by rw[aD];omega
  have he:=G.edge _ (List.getElem_mem hk)
  unfold dk
  simp only[kl]
  rw[eN hk,if_pos rfl,aW hk];simp only[aa]
  rw[bQ (n:=2*g.2[k].2.2.2) (by omega) (by omega),bQ (n:=2*g.2[k].2.2.2+1) (by omega) (by omega),ak (by omega),EH _ (g.2[k].2.1,g.2[k].2.2.1) (by omega),List.take_succ_eq_append_getElem hk,List.flatMap_append,GE]
  generalize puts (puts [] (rk g c g.1.length)) ((g.2.take k).flatMap (edL c))=S at *
  have h6:=Lm S (g.2[k].2.1,g.2[k].2.2.1)
  rw[List.flatMap_cons,List.flatMap_nil,List.append_nil]
  unfold edL
  by_cases d1:(2*g.2[k].2.2.2==c)=true
  ·rw[if_pos d1,if_pos d1];simp only[aa]
   rw[EH _ (g.2[k].2.2.1,g.2[k].2.1) (by omega)];simp only[aa]
   by_cases d2:(2*g.2[k].2.2.2+1==c)=true
   ·rw[if_pos d2,if_pos d2];rfl
   ·rw[if_neg d2,if_neg d2];rfl
  ·rw[if_neg d1,if_neg d1];simp only[aa]
   rw[EH _ (g.2[k].2.2.1,g.2[k].2.1) (by omega)];simp only[aa]
   by_cases d2:(2*g.2[k].2.2.2+1==c)=true
   ·rw[if_pos d2,if_pos d2];rfl
   ·rw[if_neg d2,if_neg d2];rfl) (by
  unfold dk
  simp only
  rw[if_neg (by simp)]) (gD (by omega))
 have this:aC (dk g c) aP (puts [] (rk g c g.1.length),0)=_:=this
 rw[ah this,List.take_of_length_le (aq _)];rfl
def arL (c:Int) (x:Int) (l:List ArT):List Pr:=(l.filter fun y=>y.2.1==c).map fun y=>(x,y.2.2)
omit G hi hs hc in
theorem EK (c x:Int) (l:List ArT):(arL c x l).length<=l.length:=by unfold arL;rw[List.length_map];exact List.length_filter_le ..
def MJ (g:GrT) (c:Int) (k:Nat):List Pr:=arL c k (arcL g.2 k)++if xX g c k=true then [((k:Int),(k:Int))] else []
omit hi hs hc in
theorem OZ (k:Nat):(MJ g c k).length<=25:=by
 have h1:=EK c k (arcL g.2 k)
 have h2:=nt g.2 k
 have h3:=G.m
 unfold MJ
 rw[af]
 split <;> simp <;> omega
theorem O0 {x:Int} {l:List ArT} (hl:l.length<=1000) {o:List Pr} (ho:o.length<=1000):aC (dh c (o,x) l) aP (o,0)=some (.brk (o++arL c x l,(l.length:Int))):=by
 have:=aL (f:=dh c (o,x) l) (fun k=>(o++arL c x (l.take k),(k:Int))) l.length (fun k hk=>by
  have h2:=EK c x (l.take k)
  have h3:(l.take k).length<=l.length:=by rw[aD];omega
  unfold dh
  simp only
  rw[eN hk,if_pos rfl,aW hk];simp only[aa,ak (show k<9223372036854775807 by omega)]
  rw[aJ (by rw[af];simp only[al,az];omega),List.take_succ_eq_append_getElem hk];simp only[aa]
  unfold arL
  rw[List.filter_append,aK]
  by_cases d:(l[k].2.1==c)=true
  ·rw[If,if_pos d,if_pos d,List.map_cons,List.map_nil,aj];rfl
  ·rw[If,if_neg d,if_neg d,List.map_nil,List.append_nil];rfl) (by
  unfold dh
  simp only
  rw[eU];rfl) (gD (by omega))
 have e0:o++arL c x (l.take 0)=o:=by simp[arL]
 simp only[e0] at this
 rw[List.take_of_length_le (aq _)] at this
 exact this
theorem WZ:gx g c=some (Qr g c):=by
 have hn:=G.n5
 have hm:=G.m
 have hlen: ∀k,((List.range k).flatMap (MJ g c)).length<=25*k:=fun k=>by
  have:=mJ (f:=MJ g c) (B:=25) (xs:=List.range k) fun x _=>OZ G x
  simpa using this
 unfold gx
 simp only[kl]
 rw[hi];simp only[aa,if_true]
 rw[Bk];simp only[aa]
 rw[if_pos (decide_eq_true hc),Qo G];simp only[aa]
 have:=aL (f:=di g c (rm g.1.length (arcL g.2))) (fun k=>((List.range k).flatMap (MJ g c),(k:Int))) g.1.length (fun k hk=>by
  have h1:=hlen k
  have h2:=nt g.2 k
  have h3:=EK c k (arcL g.2 k)
  unfold di
  simp only[kl]
  rw[if_pos (by rw[rF];simp;omega),sw hk];simp only[aa]
  rw[ah (O0 G hi hs hc (by omega) (by omega)),SU G hi hs hc ⟨by omega,by omega⟩];simp only[aa]
  rw[aJ (by rw[af];simp only[al,az];omega),ak (by omega),List.range_succ,List.flatMap_append,List.flatMap_cons,List.flatMap_nil,List.append_nil];simp only[aa]
  unfold MJ
  by_cases d:xX g c (k:Int)=true
  ·rw[if_pos d,if_pos d,aj];rfl
  ·rw[if_neg d,if_neg d,List.append_nil];rfl) (by
  unfold di
  simp only
  rw[if_neg (by rw[rF];simp)]) (gD (by omega))
 have this:aC (di g c (rm g.1.length (arcL g.2))) aP (([] :List (Int×Int)),0)=_:=this
 rw[ah this];simp only
 have h1:=hlen g.1.length
 rw[Gy _ (by omega)];simp only[aa]
 congr 1
 refine tM (Gw _) (show Str (Qr g c) from nq (nq List.Pairwise.nil)) fun x=>?_
 unfold Qr
 rw[Gx,List.mem_flatMap,ji,ji,tT,List.mem_flatMap]
 constructor
 ·rintro ⟨k,hk,h⟩
  have hk:=List.mem_range.1 hk
  unfold MJ at h
  rcases aI h with h | h
  ·right
   unfold arL at h
   obtain ⟨y,hy,rfl⟩:=List.mem_map.1 h
   obtain ⟨hy,e⟩:=List.mem_filter.1 hy
   have e:=eq_of_beq e
   unfold arcL at hy
   obtain ⟨ed,hed,hy⟩:=List.mem_flatMap.1 hy
   refine ⟨ed,hed,xZ.2 ?_⟩
   unfold GB at hy
   rcases aI hy with hy | hy
   ·split at hy
    ·rename_i hf
     obtain rfl:=au hy
     exact .inl ⟨e,by rw[<-hf];rfl⟩
    ·cases hy
   ·split at hy
    ·rename_i hf
     obtain rfl:=au hy
     exact .inr ⟨e,by rw[<-hf];rfl⟩
    ·cases hy
  ·left
   split at h
   ·rename_i d
    obtain rfl:=au h
    exact .inr ⟨k,hk,d,rfl⟩
   ·cases h
 ·rintro ((h | ⟨i,h1,h2,rfl⟩) | ⟨ed,hed,h⟩)
  ·cases h
  ·refine ⟨i,List.mem_range.2 h1,?_⟩
   unfold MJ
   rw[if_pos h2]
   exact List.mem_append.2 (.inr (List.mem_singleton.2 rfl))
  ·have hg:=G.edge ed hed
   rcases xZ.1 h with ⟨e,rfl⟩ | ⟨e,rfl⟩
   ·refine ⟨ed.2.1.toNat,List.mem_range.2 (by omega),?_⟩
    have hn:((ed.2.1.toNat:Nat):Int)=ed.2.1:=by omega
    unfold MJ arL arcL
    refine List.mem_append.2 (.inl (List.mem_map.2 ⟨fwd ed,List.mem_filter.2 ⟨List.mem_flatMap.2 ⟨ed,hed,?_⟩,?_⟩,?_⟩))
    ·unfold GB
     rw[if_pos hn.symm]
     exact List.mem_append.2 (.inl (List.mem_singleton.2 rfl))
    ·exact beq_iff_eq.2 e
    ·rw[hn];rfl
   ·refine ⟨ed.2.2.1.toNat,List.mem_range.2 (by omega),?_⟩
    have hn:((ed.2.2.1.toNat:Nat):Int)=ed.2.2.1:=by omega
    unfold MJ arL arcL
    refine List.mem_append.2 (.inl (List.mem_map.2 ⟨inv ed,List.mem_filter.2 ⟨List.mem_flatMap.2 ⟨ed,hed,?_⟩,?_⟩,?_⟩))
    ·unfold GB
     rw[if_pos (c:=ed.2.2.1=_) hn.symm]
     exact List.mem_append.2 (.inr (List.mem_singleton.2 rfl))
    ·exact beq_iff_eq.2 e
    ·rw[hn];rfl
theorem Qs:InR (Qr g c):=by
 have hn:=G.n5
 refine ⟨nq (nq List.Pairwise.nil),fun p hp=>?_⟩
 unfold Qr at hp
 rw[ji,ji,tT,List.mem_flatMap] at hp
 rcases hp with (h | ⟨i,h1,-,rfl⟩) | ⟨ed,hed,h⟩
 ·cases h
 ·simp only;omega
 ·have hg:=G.edge ed hed
  rcases xZ.1 h with ⟨-,rfl⟩ | ⟨-,rfl⟩ <;> (simp only;omega)
end
end D
end Go.Proofs.YtbhafdfiplkacaaGreat
