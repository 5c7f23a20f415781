/- FnMessageAudit: for every input the law returns true and changes nothing that was there. Part 6 of 8. -/
import Derived.Test.YtbhafdfiplkacaaGreatAC4
set_option linter.unusedVariables false
set_option linter.unusedSimpArgs false
set_option linter.unnecessarySimpa false
set_option linter.unusedSectionVars false
set_option maxRecDepth 1000000
namespace Go.Proofs.YtbhafdfiplkacaaGreat
open Go.IntKind (i64)
namespace R
open Go.RowKit
open D
abbrev y3:Ty:=.int .i64
abbrev zH:Ty:=.prod y3 (.prod y3 (.prod y3 y3))
abbrev t116:Ty:=.tree 187 116 zH
abbrev y47:Ty:=.sl 3 y3
abbrev y4:Ty:=.bool
abbrev JV:Ty:=.prod y47 (.prod y3 (.prod y3 (.prod y47 y4)))
abbrev ZL:Ty:=.fro t116
abbrev VW:Ty:=.prod y3 y4
abbrev aaz:Ty:=.sl 206 VW
abbrev y9:Ty:=.str
abbrev ZM:Ty:=.sl 9 y9
abbrev Gq:Ty:=.prod y3 (.prod y3 (.prod y3 y3))
abbrev PY:Ty:=.prod y3 (.prod y3 y3)
abbrev y5:Ty:=.int .u8
abbrev y22:Ty:=.sl 5 y5
abbrev aaX:Ty:=.prod y22 (.prod y3 y3)
abbrev aaA:Ty:=.prod y4 (.prod y3 y3)
abbrev Zf:Ty:=.sl 116 ZL
abbrev aaY:Ty:=.prod zH Zf
abbrev aaB:Ty:=.prod y3 (.prod y3 y4)
abbrev XX:Ty:=.int .u64
abbrev aaC:Ty:=.prod VW (.prod y3 y3)
abbrev ZN:Ty:=.sl 240 aaC
abbrev aaD:Ty:=.sl 238 ZN
abbrev y38:Ty:=.sl 4 y4
abbrev y39:Ty:=.sl 47 y47
abbrev y41:Ty:=.prod y3 (.prod y38 y39)
abbrev y24:Ty:=.sl 41 y41
abbrev y28:Ty:=.sl 156 zH
abbrev y30:Ty:=.wr y28
abbrev y95:Ty:=.prod y3 (.prod y30 y3)
abbrev y25:Ty:=.sl 95 y95
abbrev y27:Ty:=.prod y24 y25
abbrev XY:Ty:=.prod VW (.prod y3 y3)
abbrev aaE:Ty:=.sl 275 XY
abbrev Zg:Ty:=.prod y4 Gq
abbrev aaF:Ty:=.sl 328 Zg
abbrev XZ:Ty:=.wr aaF
abbrev X0:Ty:=.int .u32
abbrev X1:Ty:=.int .u64
abbrev y48:Ty:=.sl 137 Gq
abbrev y50:Ty:=.prod y47 y48
abbrev y65:Ty:=.prod y3 y3
abbrev y55:Ty:=.sl 65 y65
abbrev y76:Ty:=.sl 50 y50
abbrev y78:Ty:=.prod y3 y76
abbrev y84:Ty:=.prod y55 y55
abbrev y86:Ty:=.prod y3 (.prod y4 y84)
abbrev y79:Ty:=.sl 86 y86
theorem ti3:TI Tryz.prog 3 false 1:=⟨⟨_,Tryz.underlying3,rfl⟩,by kernel_rfl⟩
theorem X2 (a0:Int) (a1:Int) (a2:Int) (a3:Int) (b0:Int) (b1:Int) (b2:Int) (b3:Int) (w:World):EqT Tryz.prog 137 (.agg #[.int .i64 a0,.int .i64 a1,.int .i64 a2,.int .i64 a3]) (.agg #[.int .i64 b0,.int .i64 b1,.int .i64 b2,.int .i64 b3]) ((a0==b0)&&((a1==b1)&&((a2==b2)&&((a3==b3)&&true)))) w:=Mm w Tryz.underlying137 (by kernel_rfl) (by kernel_rfl) (mK rfl (kP ti3 rfl) (kP ti3 rfl) (run_equalIn_int w 9998 3 _ _ _ _ Tryz.underlying3) (mK rfl (kP ti3 rfl) (kP ti3 rfl) (run_equalIn_int w 9998 3 _ _ _ _ Tryz.underlying3) (mK rfl (kP ti3 rfl) (kP ti3 rfl) (run_equalIn_int w 9998 3 _ _ _ _ Tryz.underlying3) (mK rfl (kP ti3 rfl) (kP ti3 rfl) (run_equalIn_int w 9998 3 _ _ _ _ Tryz.underlying3) (Hm w)))))
theorem X3 (a0:Int) (a1:Int) (a2:Int) (a3:Int) (b0:Int) (b1:Int) (b2:Int) (b3:Int) (w:World):EqT Tryz.prog 156 (.agg #[.int .i64 a0,.int .i64 a1,.int .i64 a2,.int .i64 a3]) (.agg #[.int .i64 b0,.int .i64 b1,.int .i64 b2,.int .i64 b3]) ((a0==b0)&&((a1==b1)&&((a2==b2)&&((a3==b3)&&true)))) w:=Mm w Tryz.underlying156 (by kernel_rfl) (by kernel_rfl) (mK rfl (kP ti3 rfl) (kP ti3 rfl) (run_equalIn_int w 9998 3 _ _ _ _ Tryz.underlying3) (mK rfl (kP ti3 rfl) (kP ti3 rfl) (run_equalIn_int w 9998 3 _ _ _ _ Tryz.underlying3) (mK rfl (kP ti3 rfl) (kP ti3 rfl) (run_equalIn_int w 9998 3 _ _ _ _ Tryz.underlying3) (mK rfl (kP ti3 rfl) (kP ti3 rfl) (run_equalIn_int w 9998 3 _ _ _ _ Tryz.underlying3) (Hm w)))))
theorem ZO (a0:Int) (a1:Int) (b0:Int) (b1:Int) (w:World):EqT Tryz.prog 65 (.agg #[.int .i64 a0,.int .i64 a1]) (.agg #[.int .i64 b0,.int .i64 b1]) ((a0==b0)&&((a1==b1)&&true)) w:=Mm w Tryz.underlying65 (by kernel_rfl) (by kernel_rfl) (mK rfl (kP ti3 rfl) (kP ti3 rfl) (run_equalIn_int w 9998 3 _ _ _ _ Tryz.underlying3) (mK rfl (kP ti3 rfl) (kP ti3 rfl) (run_equalIn_int w 9998 3 _ _ _ _ Tryz.underlying3) (Hm w)))
theorem mz3 (w:World):(zeroValue 3).run Tryz.prog w= .ok (.int .i64 0) w:=by kernel_rfl
theorem kk3:KeyOk Tryz.prog 3 (fun n:Int=>Value.int .i64 n) Uy iOk:=Xc Tryz.underlying3
theorem ek3:EltOk Tryz.prog 3 (fun n:Int=>Value.int .i64 n) Uy iOk 0:=Xd Tryz.underlying3 mz3
def tt:TT:=[(3,⟨false,1,none,y3,[],some 8,none,false,none,none,some (some .i64),false,none⟩),
 (4,⟨false,1,none,y4,[],some 1,none,true,none,none,none,false,none⟩),
 (5,⟨false,1,none,y5,[],some 1,none,false,none,none,some (some .u8),false,none⟩),
 (9,⟨false,1,none,y9,[],some 16,none,false,none,none,some none,false,none⟩),
 (22,⟨false,1,some 5,y22,[],some 24,none,false,none,none,none,false,none⟩),
 (24,⟨false,1,some 41,y24,[],some 24,none,false,none,none,none,false,none⟩),
 (25,⟨false,1,some 95,y25,[],some 24,none,false,none,none,none,false,none⟩),
 (27,⟨true,2,none,y27,[(0,0),(1,0)],some 48,some [(0,1),(1,1)],false,none,none,none,false,none⟩),
 (28,⟨false,1,some 156,y28,[],some 24,none,false,none,none,none,false,none⟩),
 (30,⟨true,1,none,y30,[(0,0)],some 24,some [(0,1)],false,none,none,none,false,none⟩),
 (38,⟨false,1,some 4,y38,[],some 24,none,false,none,none,none,false,none⟩),
 (39,⟨false,1,some 47,y39,[],some 24,none,false,none,none,none,false,none⟩),
 (41,⟨true,3,none,y41,[(0,0),(1,0),(2,0)],some 56,some [(0,1),(1,1),(2,1)],false,none,none,none,false,none⟩),
 (45,⟨false,1,none,.bool,[],none,none,false,none,none,none,true,none⟩),
 (47,⟨false,1,some 3,y47,[],some 24,none,false,none,none,none,false,none⟩),
 (48,⟨false,1,some 137,y48,[],some 24,none,false,none,none,none,false,none⟩),
 (50,⟨true,2,none,y50,[(0,0),(1,0)],some 48,some [(0,1),(1,1)],false,none,none,none,false,none⟩),
 (54,⟨false,1,none,.bool,[],none,none,false,none,none,none,true,none⟩),
 (55,⟨false,1,some 65,y55,[],some 24,none,false,none,none,none,false,none⟩),
 (65,⟨true,2,none,y65,[(0,0),(1,0)],some 16,some [(0,1),(1,1)],false,some [some .i64,some .i64],none,none,false,none⟩),
 (76,⟨false,1,some 50,y76,[],some 24,none,false,none,none,none,false,none⟩),
 (78,⟨true,2,none,y78,[(0,0),(1,0)],some 32,some [(0,1),(1,1)],false,none,none,none,false,none⟩),
 (79,⟨false,1,some 86,y79,[],some 24,none,false,none,none,none,false,none⟩),
 (84,⟨true,2,none,y84,[(0,0),(1,0)],some 48,some [(0,1),(1,1)],false,none,none,none,false,none⟩),
 (86,⟨true,4,none,y86,[(0,0),(1,0),(2,1)],some 64,some [(0,1),(1,1),(2,2)],false,none,none,none,false,none⟩),
 (95,⟨true,3,none,y95,[(0,0),(1,0),(2,0)],some 40,some [(0,1),(1,1),(2,1)],false,none,none,none,false,none⟩),
 (101,⟨false,1,none,.bool,[],none,none,false,none,none,none,true,none⟩),
 (105,⟨true,5,none,JV,[(0,0),(1,0),(2,0),(3,0),(4,0)],some 72,some [(0,1),(1,1),(2,1),(3,1),(4,1)],false,none,none,none,false,none⟩),
 (111,⟨false,1,none,.bool,[],none,none,false,none,none,none,true,none⟩),
 (116,⟨false,1,none,ZL,[],some 8,none,false,none,none,none,false,some 187⟩),
 (125,⟨false,1,none,.bool,[],none,none,false,none,none,none,true,none⟩),
 (128,⟨false,1,some 206,aaz,[],some 24,none,false,none,none,none,false,none⟩),
 (134,⟨false,1,some 9,ZM,[],some 24,none,false,none,none,none,false,none⟩),
 (137,⟨true,4,none,Gq,[(0,0),(1,0),(2,0),(3,0)],some 32,some [(0,1),(1,1),(2,1),(3,1)],false,some [some .i64,some .i64,some .i64,some .i64],none,none,false,none⟩),
 (141,⟨true,3,none,PY,[(0,0),(1,0),(2,0)],some 24,some [(0,1),(1,1),(2,1)],false,none,none,none,false,none⟩),
 (153,⟨true,3,none,aaX,[(0,0),(1,0),(2,0)],some 40,some [(0,1),(1,1),(2,1)],false,none,none,none,false,none⟩),
 (156,⟨true,4,none,zH,[(0,0),(1,0),(2,0),(3,0)],some 32,some [(0,1),(1,1),(2,1),(3,1)],false,some [some .i64,some .i64,some .i64,some .i64],none,none,false,none⟩),
 (159,⟨false,1,none,.bool,[],none,none,false,none,none,none,true,none⟩),
 (169,⟨true,3,none,aaA,[(0,0),(1,0),(2,0)],some 24,some [(0,1),(1,1),(2,1)],false,none,none,none,false,none⟩),
 (183,⟨false,1,some 116,Zf,[],some 24,none,false,none,none,none,false,none⟩),
 (187,⟨true,5,none,aaY,[(0,3),(4,0)],some 56,some [(0,4),(4,1)],false,none,none,none,false,none⟩),
 (194,⟨true,3,none,aaB,[(0,0),(1,0),(2,0)],some 24,some [(0,1),(1,1),(2,1)],false,none,none,none,false,none⟩),
 (197,⟨false,1,none,.bool,[],none,none,false,none,none,none,true,none⟩),
 (199,⟨false,1,none,.bool,[],none,none,false,none,none,none,true,none⟩),
 (206,⟨true,2,none,VW,[(0,0),(1,0)],some 16,some [(0,1),(1,1)],false,none,none,none,false,none⟩),
 (210,⟨false,1,none,.bool,[],none,none,false,none,none,none,true,none⟩),
 (226,⟨false,1,none,XX,[],some 8,none,false,none,none,some (some .u64),false,none⟩),
 (236,⟨false,1,some 238,aaD,[],some 24,none,false,none,none,none,false,none⟩),
 (238,⟨false,1,some 240,ZN,[],some 24,none,false,none,none,none,false,none⟩),
 (240,⟨true,4,none,aaC,[(0,1),(2,0),(3,0)],some 32,some [(0,2),(2,1),(3,1)],false,none,none,none,false,none⟩),
 (247,⟨false,1,none,.bool,[],none,none,false,none,some ⟨3,3,.int,.int⟩,none,false,none⟩),
 (250,⟨false,1,none,.bool,[],none,none,false,none,none,none,true,none⟩),
 (272,⟨false,1,some 275,aaE,[],some 24,none,false,none,none,none,false,none⟩),
 (275,⟨true,4,none,XY,[(0,1),(2,0),(3,0)],some 32,some [(0,2),(2,1),(3,1)],false,none,none,none,false,none⟩),
 (285,⟨false,1,some 328,aaF,[],some 24,none,false,none,none,none,false,none⟩),
 (287,⟨true,1,none,XZ,[(0,0)],some 24,some [(0,1)],false,none,none,none,false,none⟩),
 (328,⟨true,5,none,Zg,[(0,0),(1,3)],some 40,some [(0,1),(1,4)],false,none,none,none,false,none⟩),
 (333,⟨false,1,none,.bool,[],none,none,false,none,none,none,true,none⟩),
 (345,⟨false,1,none,X0,[],some 4,none,false,none,none,some (some .u32),false,none⟩),
 (347,⟨false,1,none,X1,[],some 8,none,false,none,none,some (some .u64),false,none⟩)]
theorem Oy:TTok Tryz.prog tt:=⟨vc (n:=1) (z:=.int .i64 0) ⟨⟨_,Tryz.underlying3,rfl⟩,by kernel_rfl⟩ rfl (by unfold TZ;kernel_rfl) rfl (bC rfl) (fun h=>by cases h) (fun k h=>by obtain rfl:=af h;exact Tryz.underlying3),
 vc (n:=1) (z:=.bool false) ⟨⟨_,Tryz.underlying4,rfl⟩,by kernel_rfl⟩ rfl (by unfold TZ;kernel_rfl) rfl (bC rfl) (fun h=>Tryz.underlying4) (fun k h=>by cases h),
 vc (n:=1) (z:=.int .u8 0) ⟨⟨_,Tryz.underlying5,rfl⟩,by kernel_rfl⟩ rfl (by unfold TZ;kernel_rfl) rfl (bC rfl) (fun h=>by cases h) (fun k h=>by obtain rfl:=af h;exact Tryz.underlying5),
 vc (n:=1) (z:=.string ⟨#[]⟩) ⟨⟨_,Tryz.underlying9,rfl⟩,by kernel_rfl⟩ rfl (by unfold TZ;kernel_rfl) rfl (bC rfl) (fun h=>by cases h) (fun k h=>by obtain rfl:=af h;exact Tryz.underlying9),
 rV ⟨⟨_,Tryz.underlying22,rfl⟩,by kernel_rfl⟩ Tryz.underlying22 (by unfold TZ;kernel_rfl),
 rV ⟨⟨_,Tryz.underlying24,rfl⟩,by kernel_rfl⟩ Tryz.underlying24 (by unfold TZ;kernel_rfl),
 rV ⟨⟨_,Tryz.underlying25,rfl⟩,by kernel_rfl⟩ Tryz.underlying25 (by unfold TZ;kernel_rfl),
 pn (z:=.agg #[.slice none 0 0,.slice none 0 0]) ⟨⟨_,Tryz.underlying27,rfl⟩,by kernel_rfl⟩ rfl ⟨⟨_,_,Tryz.underlying27,rfl,rfl,by kernel_rfl⟩,⟨_,_,Tryz.underlying27,rfl,rfl,by kernel_rfl⟩,trivial⟩ (by unfold TZ;kernel_rfl) rfl (bC rfl) ⟨_,Tryz.underlying27,by kernel_rfl⟩ (fun ks h=>by cases h),
 rV ⟨⟨_,Tryz.underlying28,rfl⟩,by kernel_rfl⟩ Tryz.underlying28 (by unfold TZ;kernel_rfl),
 pn (z:=.agg #[.slice none 0 0]) ⟨⟨_,Tryz.underlying30,rfl⟩,by kernel_rfl⟩ rfl ⟨⟨_,_,Tryz.underlying30,rfl,rfl,by kernel_rfl⟩,trivial⟩ (by unfold TZ;kernel_rfl) rfl (bC rfl) ⟨_,Tryz.underlying30,by kernel_rfl⟩ (fun ks h=>by cases h),
 rV ⟨⟨_,Tryz.underlying38,rfl⟩,by kernel_rfl⟩ Tryz.underlying38 (by unfold TZ;kernel_rfl),
 rV ⟨⟨_,Tryz.underlying39,rfl⟩,by kernel_rfl⟩ Tryz.underlying39 (by unfold TZ;kernel_rfl),
 pn (z:=.agg #[.int .i64 0,.slice none 0 0,.slice none 0 0]) ⟨⟨_,Tryz.underlying41,rfl⟩,by kernel_rfl⟩ rfl ⟨⟨_,_,Tryz.underlying41,rfl,rfl,by kernel_rfl⟩,⟨_,_,Tryz.underlying41,rfl,rfl,by kernel_rfl⟩,⟨_,_,Tryz.underlying41,rfl,rfl,by kernel_rfl⟩,trivial⟩ (by unfold TZ;kernel_rfl) rfl (bC rfl) ⟨_,Tryz.underlying41,by kernel_rfl⟩ (fun ks h=>by cases h),
 AQ (ty:=.bool) (b:=8) ⟨⟨_,Tryz.underlying45,rfl⟩,by kernel_rfl⟩ rfl (by unfold TZ;kernel_rfl),
 rV ⟨⟨_,Tryz.underlying47,rfl⟩,by kernel_rfl⟩ Tryz.underlying47 (by unfold TZ;kernel_rfl),
 rV ⟨⟨_,Tryz.underlying48,rfl⟩,by kernel_rfl⟩ Tryz.underlying48 (by unfold TZ;kernel_rfl),
 pn (z:=.agg #[.slice none 0 0,.slice none 0 0]) ⟨⟨_,Tryz.underlying50,rfl⟩,by kernel_rfl⟩ rfl ⟨⟨_,_,Tryz.underlying50,rfl,rfl,by kernel_rfl⟩,⟨_,_,Tryz.underlying50,rfl,rfl,by kernel_rfl⟩,trivial⟩ (by unfold TZ;kernel_rfl) rfl (bC rfl) ⟨_,Tryz.underlying50,by kernel_rfl⟩ (fun ks h=>by cases h),
 AQ (ty:=.bool) (b:=8) ⟨⟨_,Tryz.underlying54,rfl⟩,by kernel_rfl⟩ rfl (by unfold TZ;kernel_rfl),
 rV ⟨⟨_,Tryz.underlying55,rfl⟩,by kernel_rfl⟩ Tryz.underlying55 (by unfold TZ;kernel_rfl),
 pn (z:=.agg #[.int .i64 0,.int .i64 0]) ⟨⟨_,Tryz.underlying65,rfl⟩,by kernel_rfl⟩ rfl ⟨⟨_,_,Tryz.underlying65,rfl,rfl,by kernel_rfl⟩,⟨_,_,Tryz.underlying65,rfl,rfl,by kernel_rfl⟩,trivial⟩ (by unfold TZ;kernel_rfl) rfl (bC rfl) ⟨_,Tryz.underlying65,by kernel_rfl⟩ (fun ks h=>by obtain rfl:=af h;exact fun w a0 b0 a1 b1=>ZO a0 a1 b0 b1 w),
 rV ⟨⟨_,Tryz.underlying76,rfl⟩,by kernel_rfl⟩ Tryz.underlying76 (by unfold TZ;kernel_rfl),
 pn (z:=.agg #[.int .i64 0,.slice none 0 0]) ⟨⟨_,Tryz.underlying78,rfl⟩,by kernel_rfl⟩ rfl ⟨⟨_,_,Tryz.underlying78,rfl,rfl,by kernel_rfl⟩,⟨_,_,Tryz.underlying78,rfl,rfl,by kernel_rfl⟩,trivial⟩ (by unfold TZ;kernel_rfl) rfl (bC rfl) ⟨_,Tryz.underlying78,by kernel_rfl⟩ (fun ks h=>by cases h),
 rV ⟨⟨_,Tryz.underlying79,rfl⟩,by kernel_rfl⟩ Tryz.underlying79 (by unfold TZ;kernel_rfl),
 pn (z:=.agg #[.slice none 0 0,.slice none 0 0]) ⟨⟨_,Tryz.underlying84,rfl⟩,by kernel_rfl⟩ rfl ⟨⟨_,_,Tryz.underlying84,rfl,rfl,by kernel_rfl⟩,⟨_,_,Tryz.underlying84,rfl,rfl,by kernel_rfl⟩,trivial⟩ (by unfold TZ;kernel_rfl) rfl (bC rfl) ⟨_,Tryz.underlying84,by kernel_rfl⟩ (fun ks h=>by cases h),
 pn (z:=.agg #[.int .i64 0,.bool false,.slice none 0 0,.slice none 0 0]) ⟨⟨_,Tryz.underlying86,rfl⟩,by kernel_rfl⟩ rfl ⟨⟨_,_,Tryz.underlying86,rfl,rfl,by kernel_rfl⟩,⟨_,_,Tryz.underlying86,rfl,rfl,by kernel_rfl⟩,⟨_,_,Tryz.underlying86,rfl,rfl,by kernel_rfl⟩,trivial⟩ (by unfold TZ;kernel_rfl) rfl (bC rfl) ⟨_,Tryz.underlying86,by kernel_rfl⟩ (fun ks h=>by cases h),
 pn (z:=.agg #[.int .i64 0,.slice none 0 0,.int .i64 0]) ⟨⟨_,Tryz.underlying95,rfl⟩,by kernel_rfl⟩ rfl ⟨⟨_,_,Tryz.underlying95,rfl,rfl,by kernel_rfl⟩,⟨_,_,Tryz.underlying95,rfl,rfl,by kernel_rfl⟩,⟨_,_,Tryz.underlying95,rfl,rfl,by kernel_rfl⟩,trivial⟩ (by unfold TZ;kernel_rfl) rfl (bC rfl) ⟨_,Tryz.underlying95,by kernel_rfl⟩ (fun ks h=>by cases h),
 AQ (ty:=.bool) (b:=8) ⟨⟨_,Tryz.underlying101,rfl⟩,by kernel_rfl⟩ rfl (by unfold TZ;kernel_rfl),
 pn (z:=.agg #[.slice none 0 0,.int .i64 0,.int .i64 0,.slice none 0 0,.bool false]) ⟨⟨_,Tryz.underlying105,rfl⟩,by kernel_rfl⟩ rfl ⟨⟨_,_,Tryz.underlying105,rfl,rfl,by kernel_rfl⟩,⟨_,_,Tryz.underlying105,rfl,rfl,by kernel_rfl⟩,⟨_,_,Tryz.underlying105,rfl,rfl,by kernel_rfl⟩,⟨_,_,Tryz.underlying105,rfl,rfl,by kernel_rfl⟩,⟨_,_,Tryz.underlying105,rfl,rfl,by kernel_rfl⟩,trivial⟩ (by unfold TZ;kernel_rfl) rfl (bC rfl) ⟨_,Tryz.underlying105,by kernel_rfl⟩ (fun ks h=>by cases h),
 AQ (ty:=.bool) (b:=8) ⟨⟨_,Tryz.underlying111,rfl⟩,by kernel_rfl⟩ rfl (by unfold TZ;kernel_rfl),
 ZK (e:=187) (E:=116) (u:=zH) ⟨⟨_,Tryz.underlying116,rfl⟩,by kernel_rfl⟩ Tryz.underlying116 (by unfold TZ;kernel_rfl),
 AQ (ty:=.bool) (b:=8) ⟨⟨_,Tryz.underlying125,rfl⟩,by kernel_rfl⟩ rfl (by unfold TZ;kernel_rfl),
 rV ⟨⟨_,Tryz.underlying128,rfl⟩,by kernel_rfl⟩ Tryz.underlying128 (by unfold TZ;kernel_rfl),
 rV ⟨⟨_,Tryz.underlying134,rfl⟩,by kernel_rfl⟩ Tryz.underlying134 (by unfold TZ;kernel_rfl),
 pn (z:=.agg #[.int .i64 0,.int .i64 0,.int .i64 0,.int .i64 0]) ⟨⟨_,Tryz.underlying137,rfl⟩,by kernel_rfl⟩ rfl ⟨⟨_,_,Tryz.underlying137,rfl,rfl,by kernel_rfl⟩,⟨_,_,Tryz.underlying137,rfl,rfl,by kernel_rfl⟩,⟨_,_,Tryz.underlying137,rfl,rfl,by kernel_rfl⟩,⟨_,_,Tryz.underlying137,rfl,rfl,by kernel_rfl⟩,trivial⟩ (by unfold TZ;kernel_rfl) rfl (bC rfl) ⟨_,Tryz.underlying137,by kernel_rfl⟩ (fun ks h=>by obtain rfl:=af h;exact fun w a0 b0 a1 b1 a2 b2 a3 b3=>X2 a0 a1 a2 a3 b0 b1 b2 b3 w),
 pn (z:=.agg #[.int .i64 0,.int .i64 0,.int .i64 0]) ⟨⟨_,Tryz.underlying141,rfl⟩,by kernel_rfl⟩ rfl ⟨⟨_,_,Tryz.underlying141,rfl,rfl,by kernel_rfl⟩,⟨_,_,Tryz.underlying141,rfl,rfl,by kernel_rfl⟩,⟨_,_,Tryz.underlying141,rfl,rfl,by kernel_rfl⟩,trivial⟩ (by unfold TZ;kernel_rfl) rfl (bC rfl) ⟨_,Tryz.underlying141,by kernel_rfl⟩ (fun ks h=>by cases h),
 pn (z:=.agg #[.slice none 0 0,.int .i64 0,.int .i64 0]) ⟨⟨_,Tryz.underlying153,rfl⟩,by kernel_rfl⟩ rfl ⟨⟨_,_,Tryz.underlying153,rfl,rfl,by kernel_rfl⟩,⟨_,_,Tryz.underlying153,rfl,rfl,by kernel_rfl⟩,⟨_,_,Tryz.underlying153,rfl,rfl,by kernel_rfl⟩,trivial⟩ (by unfold TZ;kernel_rfl) rfl (bC rfl) ⟨_,Tryz.underlying153,by kernel_rfl⟩ (fun ks h=>by cases h),
 pn (z:=.agg #[.int .i64 0,.int .i64 0,.int .i64 0,.int .i64 0]) ⟨⟨_,Tryz.underlying156,rfl⟩,by kernel_rfl⟩ rfl ⟨⟨_,_,Tryz.underlying156,rfl,rfl,by kernel_rfl⟩,⟨_,_,Tryz.underlying156,rfl,rfl,by kernel_rfl⟩,⟨_,_,Tryz.underlying156,rfl,rfl,by kernel_rfl⟩,⟨_,_,Tryz.underlying156,rfl,rfl,by kernel_rfl⟩,trivial⟩ (by unfold TZ;kernel_rfl) rfl (bC rfl) ⟨_,Tryz.underlying156,by kernel_rfl⟩ (fun ks h=>by obtain rfl:=af h;exact fun w a0 b0 a1 b1 a2 b2 a3 b3=>X3 a0 a1 a2 a3 b0 b1 b2 b3 w),
 AQ (ty:=.bool) (b:=8) ⟨⟨_,Tryz.underlying159,rfl⟩,by kernel_rfl⟩ rfl (by unfold TZ;kernel_rfl),
 pn (z:=.agg #[.bool false,.int .i64 0,.int .i64 0]) ⟨⟨_,Tryz.underlying169,rfl⟩,by kernel_rfl⟩ rfl ⟨⟨_,_,Tryz.underlying169,rfl,rfl,by kernel_rfl⟩,⟨_,_,Tryz.underlying169,rfl,rfl,by kernel_rfl⟩,⟨_,_,Tryz.underlying169,rfl,rfl,by kernel_rfl⟩,trivial⟩ (by unfold TZ;kernel_rfl) rfl (bC rfl) ⟨_,Tryz.underlying169,by kernel_rfl⟩ (fun ks h=>by cases h),
 rV ⟨⟨_,Tryz.underlying183,rfl⟩,by kernel_rfl⟩ Tryz.underlying183 (by unfold TZ;kernel_rfl),
 pn (z:=.agg #[.int .i64 0,.int .i64 0,.int .i64 0,.int .i64 0,.slice none 0 0]) ⟨⟨_,Tryz.underlying187,rfl⟩,by kernel_rfl⟩ rfl ⟨⟨_,_,Tryz.underlying187,rfl,rfl,by kernel_rfl⟩,⟨_,_,Tryz.underlying187,rfl,rfl,by kernel_rfl⟩,trivial⟩ (by unfold TZ;kernel_rfl) rfl (bC rfl) ⟨_,Tryz.underlying187,by kernel_rfl⟩ (fun ks h=>by cases h),
 pn (z:=.agg #[.int .i64 0,.int .i64 0,.bool false]) ⟨⟨_,Tryz.underlying194,rfl⟩,by kernel_rfl⟩ rfl ⟨⟨_,_,Tryz.underlying194,rfl,rfl,by kernel_rfl⟩,⟨_,_,Tryz.underlying194,rfl,rfl,by kernel_rfl⟩,⟨_,_,Tryz.underlying194,rfl,rfl,by kernel_rfl⟩,trivial⟩ (by unfold TZ;kernel_rfl) rfl (bC rfl) ⟨_,Tryz.underlying194,by kernel_rfl⟩ (fun ks h=>by cases h),
 AQ (ty:=.bool) (b:=8) ⟨⟨_,Tryz.underlying197,rfl⟩,by kernel_rfl⟩ rfl (by unfold TZ;kernel_rfl),
 AQ (ty:=.bool) (b:=8) ⟨⟨_,Tryz.underlying199,rfl⟩,by kernel_rfl⟩ rfl (by unfold TZ;kernel_rfl),
 pn (z:=.agg #[.int .i64 0,.bool false]) ⟨⟨_,Tryz.underlying206,rfl⟩,by kernel_rfl⟩ rfl ⟨⟨_,_,Tryz.underlying206,rfl,rfl,by kernel_rfl⟩,⟨_,_,Tryz.underlying206,rfl,rfl,by kernel_rfl⟩,trivial⟩ (by unfold TZ;kernel_rfl) rfl (bC rfl) ⟨_,Tryz.underlying206,by kernel_rfl⟩ (fun ks h=>by cases h),
 AQ (ty:=.bool) (b:=8) ⟨⟨_,Tryz.underlying210,rfl⟩,by kernel_rfl⟩ rfl (by unfold TZ;kernel_rfl),
 vc (n:=1) (z:=.int .u64 0) ⟨⟨_,Tryz.underlying226,rfl⟩,by kernel_rfl⟩ rfl (by unfold TZ;kernel_rfl) rfl (bC rfl) (fun h=>by cases h) (fun k h=>by obtain rfl:=af h;exact Tryz.underlying226),
 rV ⟨⟨_,Tryz.underlying236,rfl⟩,by kernel_rfl⟩ Tryz.underlying236 (by unfold TZ;kernel_rfl),
 rV ⟨⟨_,Tryz.underlying238,rfl⟩,by kernel_rfl⟩ Tryz.underlying238 (by unfold TZ;kernel_rfl),
 pn (z:=.agg #[.int .i64 0,.bool false,.int .i64 0,.int .i64 0]) ⟨⟨_,Tryz.underlying240,rfl⟩,by kernel_rfl⟩ rfl ⟨⟨_,_,Tryz.underlying240,rfl,rfl,by kernel_rfl⟩,⟨_,_,Tryz.underlying240,rfl,rfl,by kernel_rfl⟩,⟨_,_,Tryz.underlying240,rfl,rfl,by kernel_rfl⟩,trivial⟩ (by unfold TZ;kernel_rfl) rfl (bC rfl) ⟨_,Tryz.underlying240,by kernel_rfl⟩ (fun ks h=>by cases h),
 ZJ (m:=⟨3,3,.int,.int⟩) (ty:=.bool) ⟨⟨_,Tryz.underlying247,rfl⟩,by kernel_rfl⟩ rfl ⟨Tryz.underlying247,kk3,ek3⟩,
 AQ (ty:=.bool) (b:=8) ⟨⟨_,Tryz.underlying250,rfl⟩,by kernel_rfl⟩ rfl (by unfold TZ;kernel_rfl),
 rV ⟨⟨_,Tryz.underlying272,rfl⟩,by kernel_rfl⟩ Tryz.underlying272 (by unfold TZ;kernel_rfl),
 pn (z:=.agg #[.int .i64 0,.bool false,.int .i64 0,.int .i64 0]) ⟨⟨_,Tryz.underlying275,rfl⟩,by kernel_rfl⟩ rfl ⟨⟨_,_,Tryz.underlying275,rfl,rfl,by kernel_rfl⟩,⟨_,_,Tryz.underlying275,rfl,rfl,by kernel_rfl⟩,⟨_,_,Tryz.underlying275,rfl,rfl,by kernel_rfl⟩,trivial⟩ (by unfold TZ;kernel_rfl) rfl (bC rfl) ⟨_,Tryz.underlying275,by kernel_rfl⟩ (fun ks h=>by cases h),
 rV ⟨⟨_,Tryz.underlying285,rfl⟩,by kernel_rfl⟩ Tryz.underlying285 (by unfold TZ;kernel_rfl),
 pn (z:=.agg #[.slice none 0 0]) ⟨⟨_,Tryz.underlying287,rfl⟩,by kernel_rfl⟩ rfl ⟨⟨_,_,Tryz.underlying287,rfl,rfl,by kernel_rfl⟩,trivial⟩ (by unfold TZ;kernel_rfl) rfl (bC rfl) ⟨_,Tryz.underlying287,by kernel_rfl⟩ (fun ks h=>by cases h),
 pn (z:=.agg #[.bool false,.int .i64 0,.int .i64 0,.int .i64 0,.int .i64 0]) ⟨⟨_,Tryz.underlying328,rfl⟩,by kernel_rfl⟩ rfl ⟨⟨_,_,Tryz.underlying328,rfl,rfl,by kernel_rfl⟩,⟨_,_,Tryz.underlying328,rfl,rfl,by kernel_rfl⟩,trivial⟩ (by unfold TZ;kernel_rfl) rfl (bC rfl) ⟨_,Tryz.underlying328,by kernel_rfl⟩ (fun ks h=>by cases h),
 AQ (ty:=.bool) (b:=8) ⟨⟨_,Tryz.underlying333,rfl⟩,by kernel_rfl⟩ rfl (by unfold TZ;kernel_rfl),
 vc (n:=1) (z:=.int .u32 0) ⟨⟨_,Tryz.underlying345,rfl⟩,by kernel_rfl⟩ rfl (by unfold TZ;kernel_rfl) rfl (bC rfl) (fun h=>by cases h) (fun k h=>by obtain rfl:=af h;exact Tryz.underlying345),
 vc (n:=1) (z:=.int .u64 0) ⟨⟨_,Tryz.underlying347,rfl⟩,by kernel_rfl⟩ rfl (by unfold TZ;kernel_rfl) rfl (bC rfl) (fun h=>by cases h) (fun k h=>by obtain rfl:=af h;exact Tryz.underlying347),trivial⟩
theorem mixed:Tryz.prog.follows .mixedOrders=true:=by kernel_rfl
def Tt (fn:Func):Code:=match fn.body with
 | some c=>c
 | none=>.skip
theorem fk {k:FuncId} {fn:Func} {f:FS} (ft:FT) (hF:FTok Tryz.prog ft) (hf:Tryz.prog.funcs[k]? =some fn) (ann:Ann) (an:List (Nat×Ty):=[]) (tr:Trs:=[]) (hb:fn.body=some (Tt fn):=by rfl) (he:(fn.name == "runtime.NumGoroutine")=false:=by kernel_rfl) (hcl:f.cl=none:=by rfl) (hm:Nat.ble f.ps.length fn.ntmps=true:=by rfl) (hdp:(DX f.rs&&v8 f.ps)=true:=by rfl)
  (hmod: ∀d,appP f.ps f.m d=j4 ⟨tt,ft,an,fn.ntmps,tr⟩ (Ll ⟨tt,ft,an,fn.ntmps,tr⟩ fn.results.toList f.rs f.ps d) (Tt fn) ann (fun r=>some r) (fun _ _=>none) (Ll ⟨tt,ft,an,fn.ntmps,tr⟩ fn.results.toList f.rs f.ps d) (q7 (yJ f.ps d)):=by intro d;kernel_rfl):FOk Tryz.prog k f:=
 fok (V:=⟨tt,ft,an,fn.ntmps,tr⟩) Oy hF mixed hf hb rfl (enters_of hf he hb) hcl (bC hm) hdp ann hmod
def Oz:FS:=⟨[.rd y22],[y4],Ic,none⟩
def Gr:FS:=⟨[.rd y22],[.int .i64,.int .i64],wu,some (153,9)⟩
def CZ:FS:=⟨[.crs 153 5],[y3],kR,none⟩
def cB:FS:=⟨[.crs 153 5,.rd y3],[y3],aL,none⟩
def jU:FS:=⟨[.crs 153 5,.rd y3],[y4],bu,none⟩
def eA:FS:=⟨[.crs 153 5,.rd y47],[y3],bq,none⟩
def kD:FS:=⟨[.rd y3,.rd y3,.rd y3],[y4],dq,none⟩
def sA:FS:=⟨[.rd y3],[y4],na,none⟩
def vf:FS:=⟨[.rd zH],[y3],oH,none⟩
def C1:FS:=⟨[.rd y30],[y4],tF,none⟩
def oX:FS:=⟨[.rd y30],[y4],jf,none⟩
def rl:FS:=⟨[.rd y28],[y3],jg,none⟩
def rp (n:Nat):FS:=⟨[.rd y28],[y3],fv n,none⟩
def tN:FS:=⟨[.rd y28],[y30],fM,none⟩
def tO:FS:=⟨[.rd y30,.rd y30,.rd zH],[y30],fl,none⟩
def xP:FS:=⟨[.rd y3],[y30],oh,none⟩
def pB (n:Nat):FS:=⟨[.rd y30,.rd y3,.rd y3],[y30],kS n,none⟩
def nU (n:Nat):FS:=⟨[.rd y28],[y30],dz n,none⟩
def uh:FS:=⟨[.rd y30],[y30,y4],iH,none⟩
def AT:FS:=⟨[.ptr 105 JV,.rd y3,.rd y3],[],oJ,none⟩
def pC (n:Nat):FS:=⟨[.ptr 105 JV,.rd y28],[aaA],cG n,none⟩
def lU:FS:=⟨[.rd y30],[JV,y4],dA,none⟩
def yM:FS:=⟨[.rd JV,.rd y3,.rd y3],[y3],pz,none⟩
def vh:FS:=⟨[.rd y47,.rd y3],[y3],oK,none⟩
def ui:FS:=⟨[.rd JV,.rd y3],[y4],mM,none⟩
def p7:FS:=⟨[.rd JV,.rd y3],[y41,y4],dZ,none⟩
def uj:FS:=⟨[],[y41],pX,none⟩
def wC:FS:=⟨[.rd y41,.rd y47,.rd y38],[y41],jL,none⟩
def wD:FS:=⟨[.rd y47,.rd y47],[y3],oL,none⟩
def vi:FS:=⟨[.rd y41],[y38],mo,none⟩
def C2:FS:=⟨[.rd y41,.rd y47,.rd y3],[y47],ql,none⟩
def uk:FS:=⟨[.rd y41],[y47],j8,none⟩
def sB:FS:=⟨[.rd y41],[y41],gL,none⟩
def sC:FS:=⟨[.rd y30],[y41,y4],m_s_CompileExpr,none⟩
def mC:FS:=⟨[.rd y41,.rd y41],[y4],gM,none⟩
def yN:FS:=⟨[.rd y24,.rd y41],[y3],fg,none⟩
def sD:FS:=⟨[.rd y25],[y27,y4],cH,none⟩
def um:FS:=⟨[.rd y30,.rd y30],[y4],mO,none⟩
def oY:FS:=⟨[.rd y27,.rd y27],[y4],ig,none⟩
def ix:FS:=⟨[.rd y27],[y4],cq,none⟩
def nV:FS:=⟨[.rd y27,.rd y3],[y3],ij,none⟩
def vj:FS:=⟨[.rd y41],[y41],oM,none⟩
def AU:FS:=⟨[.rd y27],[y27],mr,none⟩
def qw:FS:=⟨[.rd y27,.rd y3,.rd y30],[y27,y4],gN,none⟩
def Gs:FS:=⟨[.rd y9,.rd y5],[ZM],Gp,none⟩
def nB:FS:=⟨[.rd y3],[y9],nA,none⟩
def wE:FS:=⟨[.rd y3],[y9],re,none⟩
def AW:FS:=⟨[.rd zH],[y9],AR,none⟩
def sE:FS:=⟨[.rd y9],[y3,y4],sw,none⟩
def C3:FS:=⟨[.rd y9],[zH],CY,none⟩
def wF:FS:=⟨[.rd y9],[y30,y4],jN,none⟩
def C4:FS:=⟨[.crs 153 5,.rd ZM],[y9],tG,none⟩
def vk:FS:=⟨[.crs 153 5],[y30],oN,none⟩
def oZ:FS:=⟨[.crs 153 5],[y27],jj,none⟩
def uo:FS:=⟨[.rd y3],[y30],ug,none⟩
def tP (n:Nat):FS:=⟨[.crs 153 5,.rd y3],[y30],eO n,none⟩
def C5:FS:=⟨[.crs 153 5],[y30],tH,none⟩
def wG:FS:=⟨[.crs 153 5],[y41],lG,none⟩
def C6:FS:=⟨[.crs 153 5],[y41],tI,none⟩
def C7:FS:=⟨[.crs 153 5],[y27],oi,none⟩
def Gt:FS:=⟨[.crs 153 5,.rd y27],[y3],qm,none⟩
def vl:FS:=⟨[.crs 153 5],[y50],kI,none⟩
def xQ:FS:=⟨[.rd y50,.rd Gq],[y4],qn,none⟩
def eU:FS:=⟨[.rd y50],[y4],bc,none⟩
def dH:FS:=⟨[.rd y78],[y4],a8,none⟩
def jV:FS:=⟨[.rd y50],[y50],bY,none⟩
def uq:FS:=⟨[.rd y50,.rd y3],[y78,y4],kh,none⟩
def dW:FS:=⟨[.rd y78],[y3],aX,none⟩
def xR:FS:=⟨[.rd y78],[y78],qo,none⟩
def lV:FS:=⟨[.rd y50,.rd y3],[y3],dB,none⟩
def ur:FS:=⟨[.rd y50,.rd Gq],[y50,y4],mP,none⟩
def uu:FS:=⟨[.rd y50,.rd y3],[y50,y4],mQ,none⟩
def vm:FS:=⟨[.rd y50,.rd XZ],[y50,y4],eS,none⟩
def uv:FS:=⟨[.rd y50,.rd XZ],[y50,y4],kj,none⟩
def sF:FS:=⟨[.rd y78,.rd XZ],[y78,y4],jk,none⟩
def C8:FS:=⟨[.crs 153 5,.rd y50],[Gq],qp,none⟩
def AX:FS:=⟨[.crs 153 5,.rd y50,.rd y3],[XZ],oP,none⟩
def rq:FS:=⟨[.crs 153 5],[y78],lI,none⟩
def pD:FS:=⟨[.rd y78,.rd y3],[y78,y4],fV,none⟩
def Gu:FS:=⟨[.crs 153 5],[y50],wx,none⟩
def Gv:FS:=⟨[.crs 153 5],[y78],qq,none⟩
def C9:FS:=⟨[.crs 153 5],[y78,y27,PY],tJ,none⟩
def vn:FS:=⟨[.rd y78,.rd y27,.rd PY],[y4],kK,none⟩
def pE:FS:=⟨[.rd y27,.rd y3],[y41,y4],dC,none⟩
def AY:FS:=⟨[.rd y41],[y4],oQ,none⟩
def nJ:FS:=⟨[.rd y41],[y4],cY,none⟩
def AZ:FS:=⟨[.rd y50,.rd y41,.rd y3,.rd y3],[y4],jl,none⟩
def Da:FS:=⟨[.rd y50,.rd y3],[aaz],qu,none⟩
def p8:FS:=⟨[.rd y41,.rd y3,.rd y3],[y3],gk,none⟩
def wH:FS:=⟨[.rd Gq,.rd y4],[y3],il,none⟩
def Gw:FS:=⟨[.rd Gq,.rd y4],[y3],oR,none⟩
def yO:FS:=⟨[.rd y50,.rd y41,.rd y3,.rd y3],[aaE],kT,none⟩
def yP:FS:=⟨[.rd y50,.rd y41,.rd y3],[y47],nc,none⟩
def uw:FS:=⟨[.rd y50,.rd y41,.rd y3,.rd y3],[y4],kl,none⟩
def Gx:FS:=⟨[.rd y3],[y47],wz,none⟩
def A0:FS:=⟨[.rd y50,.rd y41,.rd y3],[y47],oS,none⟩
def uy:FS:=⟨[.rd y50,.rd y41],[y55],gl,none⟩
def nC:FS:=⟨[.rd y27,.rd y50,.rd y3],[y55,y4],bd,none⟩
def vo:FS:=⟨[.rd y78,.rd y3],[y50,y4],dD,none⟩
def tQ:FS:=⟨[.rd y55,.rd y65],[y4],my,none⟩
def vp:FS:=⟨[.rd y65,.rd y65],[y4],mz,none⟩
def xS:FS:=⟨[.eat (.sl 65 y65),.rd y65],[y55],oj,none⟩
def mD:FS:=⟨[.rd y55,.rd y55],[y55],dj,none⟩
def rG:FS:=⟨[.rd y55,.rd y55],[y84],kA,none⟩
def p9:FS:=⟨[.rd y78,.rd y27,.rd PY,.rd y3],[y86],gm,none⟩
def sG:FS:=⟨[.rd y78,.rd y27,.rd PY],[y86,PY,y4],ju,none⟩
def qx:FS:=⟨[.rd y78,.rd y27,.rd PY],[y79,PY],fm,none⟩
def sH:FS:=⟨[.rd y78,.rd y27,.rd PY],[y86,PY,y4],dE,none⟩
def nl:FS:=⟨[.rd y22],[y78,y27,y3,y3,y79],fW,none⟩
def iS:FS:=⟨[.rd y38,.rd y38],[y4],fa,none⟩
def da:FS:=⟨[.rd y39,.rd y39,.fn [y47,y47] [y4]],[y4],bO,none⟩
def dL:FS:=⟨[.rd y47,.rd y47],[y4],cX,none⟩
def o0:FS:=⟨[.rd y47,.rd y47],[y4],im,none⟩
def mE:FS:=⟨[.rd y41,.rd y41],[y4],fo,none⟩
def bJ:FS:=⟨[.rd y24,.rd y24,.fn [y41,y41] [y4]],[y4],be,none⟩
def bE:FS:=⟨[.rd y25,.rd y25,.fn [y95,y95] [y4]],[y4],a7,none⟩
def gZ:FS:=⟨[.rd y28,.rd y28],[y4],c8,none⟩
def uz:FS:=⟨[.rd y30,.rd y30],[y4],mS,none⟩
def rH:FS:=⟨[.rd y95,.rd y95],[y4],iC,none⟩
def o6:FS:=⟨[.rd y27,.rd y27],[y4],iq,none⟩
def gV:FS:=⟨[.rd y3,.rd y3,.rd y3],[y4],bS,none⟩
def sI:FS:=⟨[.rd y3],[y4],kU,none⟩
def A1:FS:=⟨[.rd zH],[y4],rf,none⟩
def bL:FS:=⟨[.rd Zf],[Zf],fun _=>none,some (116,8)⟩
def tR:FS:=⟨[.rd y30],[t116],om,none⟩
def Db:FS:=⟨[.rd y30],[y4],tK,none⟩
def sJ:FS:=⟨[.rd y30],[y4],lK,none⟩
def mY (n:Nat):FS:=⟨[.rd t116],[y3],cd n,none⟩
def JW:FS:=⟨[.rd y3],[t116],Ek,none⟩
def pF (n:Nat):FS:=⟨[.eat t116,.rd y3,.rd y3],[t116],kV n,none⟩
def lW (n:Nat):FS:=⟨[.rd t116],[t116],bF n,none⟩
def kE (n:Nat):FS:=⟨[.rd t116,.ptr 30 y30],[],bD n,none⟩
def wI:FS:=⟨[.rd t116],[y30],ri,none⟩
def uA:FS:=⟨[.rd y30],[y30,y4],mT,none⟩
def nK:FS:=⟨[.ptr 105 JV,.rd y3,.rd y3],[],eW,none⟩
def iy (n:Nat):FS:=⟨[.ptr 105 JV,.rd t116],[aaB],bG n,none⟩
def pG:FS:=⟨[.rd y30],[JV,y4],iQ,none⟩
def nD:FS:=⟨[.rd y3,.rd y3,.fn [y3] [y4],.fn [y3,y3] [y3,y4]],[y41,y4],fQ,none⟩
def nm:FS:=⟨[.rd JV,.rd y3],[y4],eG,none⟩
def o7:FS:=⟨[.rd JV,.rd y3,.rd y3],[y3],ir,none⟩
def qy:FS:=⟨[.rd y3,.rd y3,.cap 105 JV],[y3,y4],dQ,none⟩
def sK:FS:=⟨[.rd JV,.rd y3],[y41,y4],jv,none⟩
def bT:FS:=⟨[.rd y38],[y38],fun _=>none,some (4,1)⟩
def pH:FS:=⟨[.rd y41],[y38],fX,none⟩
def fI:FS:=⟨[.rd y39,.fn [y47] [y4]],[y3],cy,none⟩
def me:FS:=⟨[.rd y47,.cap 47 y47],[y4],iO,none⟩
def nL:FS:=⟨[.rd y41,.rd y47],[y47,y3],eX,none⟩
def np:FS:=⟨[.rd y41],[y47],eJ,none⟩
def o8:FS:=⟨[.rd X0,.rd X0],[X0,X0],vd,none⟩
def o9:FS:=⟨[.rd X1,.rd X1],[X1,X1],oT,none⟩
def qz:FS:=⟨[.rd XX,.rd XX],[XX,XX],qv,none⟩
def fB:FS:=⟨[.rd y47,.rd y3],[y47],cK,none⟩
def A2:FS:=⟨[],[y41],ve,none⟩
def jW:FS:=⟨[.rd y47,.rd y3],[y3],fK,none⟩
def kW:FS:=⟨[.rd y3,.cap 47 y47],[y3],bm,none⟩
def kX:FS:=⟨[.rd y3,.cap 41 y41,.capf 250 [y3] [y3]],[y4],dm,none⟩
def iT:FS:=⟨[.rd y41,.rd y3,.rd y3],[y3],bP,none⟩
def kY:FS:=⟨[.rd y3,.rd y3,.cap 41 y41,.capf 250 [y3] [y3],.cap 47 y47],[y3,y4],dn,none⟩
def mf:FS:=⟨[.rd y41],[y41],db,none⟩
def Gy:FS:=⟨[.rd y41],[y41,y4],AS,none⟩
def sL:FS:=⟨[.rd y30],[y41,y4],jx,none⟩
def yQ:FS:=⟨[.rd y30],[y30],ni,none⟩
def dJ:FS:=⟨[.rd y24,.fn [y41] [y4]],[y3],bj,none⟩
def yR:FS:=⟨[.rd y41,.cap 41 y41],[y4],nj,none⟩
def Dc:FS:=⟨[.rd y25],[y27,y4],tL,none⟩
def pa:FS:=⟨[.rd y27],[y4],dR,none⟩
def dx:FS:=⟨[.rd y25,.fn [y95] [y4]],[y3],cj,none⟩
def sM:FS:=⟨[.rd y95,.cap 3 y3],[y4],lM,none⟩
def wJ:FS:=⟨[.rd y27,.rd y3],[y3],nT,none⟩
def pI:FS:=⟨[.rd y47],[y47],jy,none⟩
def qA:FS:=⟨[.rd y41],[y41],jP,none⟩
def pJ:FS:=⟨[.rd y27,.rd y3],[y41,y4],eP,none⟩
def Dd:FS:=⟨[.rd Gq,.rd y3],[y4],mA,none⟩
def kF:FS:=⟨[.rd y50],[y4],aS,none⟩
def nM:FS:=⟨[.rd y41],[y4],cA,none⟩
def xT:FS:=⟨[.rd y50,.rd y41,.rd y47],[y4],de,none⟩
def De:FS:=⟨[.rd y39,.rd y47],[y47],tM,none⟩
def Gz:FS:=⟨[.rd Gq,.rd y4],[y3],sx,none⟩
def JX:FS:=⟨[.rd y50],[aaD],wA,none⟩
def rr:FS:=⟨[.rd y3],[y47],jz,none⟩
def vq:FS:=⟨[.rd y41,.rd y3,.rd y3],[y3],gp,none⟩
def GB:FS:=⟨[.rd y41,.rd y3,.rd y3,.rd y3],[y3],sy,none⟩
def rI:FS:=⟨[.rd y50,.rd y41],[y39],fR,none⟩
def qB:FS:=⟨[.rd y50,.rd y41,.rd y3],[y47],gQ,some (0,7)⟩
def wK:FS:=⟨[.rd y41,.rd y3,.rd y3],[y4],lQ,none⟩
def kt:FS:=⟨[.ow (.sl 3 y3)],[],gq,none⟩
def iU:FS:=⟨[.eat (.sl 3 y3)],[.sl 3 y3],dt,none⟩
def wL:FS:=⟨[.rd y47],[y47],lR,none⟩
def sN:FS:=⟨[.rd y50,.rd y41,.rd y3],[y47],jB,none⟩
def uB:FS:=⟨[.rd y50,.rd y41],[y55],fh,none⟩
def rJ:FS:=⟨[.rd y27,.rd y50,.rd y3],[y55,y4],cx,none⟩
def lX:FS:=⟨[.rd y78],[y4],bz,none⟩
def qC:FS:=⟨[.rd y78],[y3],fp,none⟩
def wM:FS:=⟨[.rd y50],[y50],jQ,none⟩
def A3:FS:=⟨[.rd y78,.rd y3],[y50,y4],iw,none⟩
def wN:FS:=⟨[.rd y78,.rd y27,.rd y3,.rd y3],[y55,y4],fe,none⟩
def sO:FS:=⟨[.rd y3,.rd y3],[y3],lS,none⟩
def nE:FS:=⟨[.rd y65,.rd y65],[y3],iD,none⟩
def pK:FS:=⟨[.rd y55],[y4],fZ,none⟩
def dK:FS:=⟨[.rd y55,.fn [y65] [y4]],[y3],bB,none⟩
def ga:FS:=⟨[.eat (.sl 65 y65),.fn [y65] [y4]],[.sl 65 y65],cD,none⟩
def gW:FS:=⟨[.ow (.sl 65 y65),.fk 97],[],dV,none⟩
def hY:FS:=⟨[.eat (.sl 65 y65)],[.sl 65 y65],c9,none⟩
def vr:FS:=⟨[.rd y55],[y55],oV,none⟩
def iV:FS:=⟨[.rd y55,.rd y65],[y3],du,none⟩
def dX:FS:=⟨[.rd y55,.rd y65],[y4],b8,none⟩
def pb:FS:=⟨[.rd y65,.cap 55 y55],[y4],kL,none⟩
def qD:FS:=⟨[.rd y55,.rd y55],[y55],gS,none⟩
def uC:FS:=⟨[.rd y55,.rd y55],[y55],mU,none⟩
def ru:FS:=⟨[.rd y55],[y55],ez,none⟩
def fC:FS:=⟨[.rd y55,.fn [y65] [y4]],[y4],dh,none⟩
def rK:FS:=⟨[.rd y65,.cap 55 y55],[y4],kC,none⟩
def qa:FS:=⟨[.rd y55,.rd y55],[y4],ko,none⟩
def A4:FS:=⟨[.rd y84],[y4],rj,none⟩
def uD:FS:=⟨[.rd y55,.rd y84],[y55,y4],mV,none⟩
def rL:FS:=⟨[.rd y55,.rd y86],[y55,y4],iE,none⟩
def iW:FS:=⟨[.rd y55,.rd y55],[y4],dw,none⟩
def uE:FS:=⟨[.rd y55,.rd y55],[y4],mW,none⟩
def qF:FS:=⟨[.rd y78,.rd y27,.rd y3,.rd y3,.rd y79],[y4],gT,none⟩
def uF:FS:=⟨[.rd y55,.rd y55],[y4],kp,none⟩
def pL:FS:=⟨[.rd y55],[y4],jD,none⟩
def uG:FS:=⟨[.rd y55,.rd y55],[y55],iK,none⟩
def A5:FS:=⟨[.rd y84],[y4],rk,none⟩
def uH:FS:=⟨[.rd y55,.rd y84],[y55,y4],iL,none⟩
def rM:FS:=⟨[.rd y55,.rd y86],[y55,y4],cO,none⟩
def qG:FS:=⟨[.rd y78,.rd y27,.rd y3,.rd y3,.rd y79],[y4],gU,none⟩
def sP:FS:=⟨[.rd y84],[y84],lT,none⟩
def wO:FS:=⟨[.rd y22],[y4],iR,none⟩
end R
namespace R
open Go.RowKit
open D
theorem VX:FOk Tryz.prog 8 Oz:=fk [] trivial Tryz.func8 .no
theorem OA:FOk Tryz.prog 50 Gr:=VS (T:=153) (XW (V:=⟨tt,[],[],32,[]⟩) Oy trivial mixed Tryz.func50 rfl rfl (enters_of Tryz.func50 (by kernel_rfl) rfl) (bC rfl) (.t (.t (.two (.t (.loop [.s 3,.s 4] .no)) .no))) (fun xs=>by kernel_rfl)) rfl
theorem Lq:FOk Tryz.prog 183 CZ:=fk [] trivial Tryz.func183 (.t (.t (.t (.two (.t (.at [.s 3,.cur 0] .no)) .no))))
theorem cM:FOk Tryz.prog 102 cB:=fk [(183,CZ)] ⟨Lq,trivial⟩ Tryz.func102 .no
theorem kZ:FOk Tryz.prog 100 jU:=fk [(102,cB)] ⟨cM,trivial⟩ Tryz.func100 .no
theorem ff:FOk Tryz.prog 52 eA:=fk [(102,cB)] ⟨cM,trivial⟩ Tryz.func52 .no
theorem lY:FOk Tryz.prog 110 kD:=fk [] trivial Tryz.func110 .no
theorem yS:FOk Tryz.prog 295 sA:=fk [(110,kD)] ⟨lY,trivial⟩ Tryz.func295 .no
theorem A6:FOk Tryz.prog 232 vf:=fk [(110,kD),(295,sA)] ⟨lY,yS,trivial⟩ Tryz.func232 (.t (.two (.t (.join [.slot 5 .boo] .no (.t (.t (.t (.join [.slot 37 .boo] .no .no)))))) .no))
theorem Lr:FOk Tryz.prog 160 C1:=fk [(232,vf)] ⟨A6,trivial⟩ Tryz.func160 (.t (.t (.two (.t (.loop [.s 3,.s 4] .no)) .no)))
theorem sQ:FOk Tryz.prog 84 oX:=fk [(160,C1)] ⟨Lr,trivial⟩ Tryz.func84 .no
theorem vt:FOk Tryz.prog 163 rl:=fk [(232,vf)] ⟨A6,trivial⟩ Tryz.func163 (.t (.t (.t (.two (.loop [.s 3,.s 4] .no) .no))))
theorem A7: ∀n,FOk Tryz.prog 215 (rp n)
 | 0=>ku (f:=rp 0) (enters_of Tryz.func215 (by kernel_rfl) rfl) rfl (fun d=>rfl)
 | n+1=>by
  have ih:=A7 n
  exact fk [(163,rl),(215,(rp n))] ⟨vt,ih,trivial⟩ Tryz.func215 (.t (.t (.t (.two (.t (.two (.t (.at [.slot 15 .boo] .no)) .no)) .no))))
theorem xU:FOk Tryz.prog 129 tN:=fk [] trivial Tryz.func129 .no
theorem xV:FOk Tryz.prog 254 tO:=fk [(129,tN)] ⟨xU,trivial⟩ Tryz.func254 .no
theorem Df:FOk Tryz.prog 252 xP:=fk [] trivial Tryz.func252 .no
theorem yT: ∀n,FOk Tryz.prog 287 (pB n)
 | 0=>ku (f:=pB 0) (enters_of Tryz.func287 (by kernel_rfl) rfl) rfl (fun d=>rfl)
 | n+1=>by
  have ih:=yT n
  exact fk [(252,xP),(254,tO),(287,(pB n))] ⟨Df,xV,ih,trivial⟩ Tryz.func287 .no
end R
namespace R
open Go.RowKit
open D
theorem wP: ∀n,FOk Tryz.prog 216 (nU n)
 | 0=>ku (f:=nU 0) (enters_of Tryz.func216 (by kernel_rfl) rfl) rfl (fun d=>rfl)
 | n+1=>by
  have ih:=wP n
  exact fk [(163,rl),(216,(nU n)),(254,tO),(287,(pB fJ))] ⟨vt,ih,xV,(yT fJ),trivial⟩ Tryz.func216 (.t (.t (.t (.two (.t (.two (.t (.at [.slot 15 .boo] .no)) .no)) .no))))
theorem Cd:FOk Tryz.prog 134 uh:=fk [(84,oX),(215,(rp fJ)),(216,(nU fJ))] ⟨sQ,(A7 fJ),(wP fJ),trivial⟩ Tryz.func134 .no
theorem Ie:FOk Tryz.prog 217 AT:=fk [] trivial Tryz.func217 (.t (.loop [.s 6,.par 4 [3] 3 y3] (.t (.two (.at [.par 4 [3] 3 y3] .no) .no))))
theorem yU: ∀n,FOk Tryz.prog 135 (pC n)
 | 0=>ku (f:=pC 0) (enters_of Tryz.func135 (by kernel_rfl) rfl) rfl (fun d=>rfl)
 | n+1=>by
  have ih:=yU n
  exact fk [(135,(pC n)),(163,rl),(217,AT)] ⟨ih,vt,Ie,trivial⟩ Tryz.func135 (.t (.t (.t (.two (.t (.t (.t (.t (.t (.t (.two (.t (.t (.t (.t (.t (.two (.t (.at [.box 11 [.boo,(.num .i64),(.num .i64)]] .no)) (.two (.t (.at [.box 11 [.boo,(.num .i64),(.num .i64)]] .no)) .no))))))) .no))))))) .no))))
theorem pM:FOk Tryz.prog 67 lU:=fk [(134,uh),(135,(pC fJ))] ⟨Cd,(yU fJ),trivial⟩ Tryz.func67 (.t (.t (.t (.t (.two (.t (.loop [.s 6,.s 7] (.t (.two (.at [.s 6] .no) .no)))) .no)))))
theorem GC:FOk Tryz.prog 136 yM:=fk [] trivial Tryz.func136 (.t (.t (.join [.s 7] .no (.two (.t (.loop [.s 7,.s 8] (.t (.join [.s 7] .no .no)))) (.t (.two (.t (.loop [.s 9,.s 10] (.t (.join [.s 9] .no .no)))) .no))))))
theorem A8:FOk Tryz.prog 137 vh:=fk [] trivial Tryz.func137 (.t (.two (.t (.loop [.s 5] .no)) .no))
theorem Ce:FOk Tryz.prog 138 ui:=fk [] trivial Tryz.func138 .no
theorem uI:FOk Tryz.prog 68 p7:=fk [(136,yM),(137,vh),(138,ui)] ⟨GC,A8,Ce,trivial⟩ Tryz.func68 (.t (.t (.t (.two (.t (.loop [.slot 7 (.own 3 y3),.s 8,.box 6 [(.num .i64),(.own 4 y4),(.own 47 y47)]] (.t (.two (.t (.two (.t (.loop [.slot 7 (.own 3 y3),.slot 9 (.own 3 y3),.s 10] (.t (.two (.t (.t (.join [.slot 7 (.own 3 y3),.s 12] .no .no))) .no)))) .no)) .no)))) .no))))
theorem Cf:FOk Tryz.prog 218 uj:=fk [] trivial Tryz.func218 (.t (.t (.two (.t (.loop [.slot 1 (.own 3 y3),.s 2] .no)) .no)))
theorem El:FOk Tryz.prog 139 wC:=fk [(137,vh),(218,uj)] ⟨A8,Cf,trivial⟩ Tryz.func139 (.t (.t (.t (.t (.t (.two (.t (.loop [.slot 8 (.own 3 y3),.slot 9 (.own 3 y3),.s 10,.box 7 [(.num .i64),(.own 4 y4),(.own 47 y47)]] (.t (.two (.t (.two (.t (.loop [.slot 8 (.own 3 y3),.slot 9 (.own 3 y3),.slot 11 (.own 3 y3),.s 12] (.t (.two (.t (.t (.join [.slot 8 (.own 3 y3),.slot 9 (.own 3 y3),.s 14] .no .no))) .no)))) .no)) .no)))) .no))))))
theorem A9:FOk Tryz.prog 70 wD:=fk [] trivial Tryz.func70 (.t (.two (.t (.loop [.s 5] .no)) .no))
theorem Ba:FOk Tryz.prog 141 vi:=fk [] trivial Tryz.func141 (.t (.t (.two (.t (.loop [.row 3 4 y4,.s 4] (.t (.two (.t (.loop [.row 3 4 y4,.s 5] (.t (.two (.t (.loop [.row 3 4 y4,.s 6] (.t (.join [.row 3 4 y4] .no .no)))) .no)))) .no)))) .no)))
theorem Ls:FOk Tryz.prog 219 C2:=fk [] trivial Tryz.func219 (.t (.t (.two (.t (.loop [.slot 7 (.own 3 y3),.s 8] (.t (.join [.slot 7 (.own 3 y3)] .no .no)))) .no)))
theorem Cg:FOk Tryz.prog 140 uk:=fk [(70,wD),(141,vi),(219,C2)] ⟨A9,Ba,Ls,trivial⟩ Tryz.func140 (.t (.t (.t (.two (.t (.loop [.slot 4 (.own 3 y3),.s 5] (.t (.two (.t (.two (.t (.at [.s 6] .no)) (.two (.t (.at [.s 6] .no)) .no))) .no)))) (.two (.t (.loop [.slot 4 (.own 3 y3),.s 7] (.t (.two (.t (.t (.two (.t (.loop [.slot 8 (.own 47 y47),.slot 9 (.own 3 y3),.s 10] (.t (.two (.at [.slot 8 (.own 47 y47),.slot 9 (.own 3 y3)] (.t (.t (.t (.two (.t (.loop [.s 12,.s 13] (.t (.two (.at [.s 12] .no) .no)))) (.two (.t (.at [.slot 8 (.own 47 y47),.s 12,.gone 11] .no)) .no)))))) .no)))) .no))) .no)))) .no)))))
theorem Bb:FOk Tryz.prog 69 sB:=fk [(139,wC),(140,uk),(141,vi)] ⟨El,Cg,Ba,trivial⟩ Tryz.func69 .no
theorem Bc:FOk Tryz.prog 17 sC:=fk [(67,lU),(68,p7),(69,sB)] ⟨pM,uI,Bb,trivial⟩ Tryz.func17 .no
end R
namespace R
open Go.RowKit
open D
theorem qH:FOk Tryz.prog 18 mC:=fk [(70,wD)] ⟨A9,trivial⟩ Tryz.func18 (.t (.t (.two (.t (.loop [.s 5] .no)) (.two (.t (.loop [.s 6] .no)) .no))))
theorem GD:FOk Tryz.prog 130 yN:=fk [(18,mC)] ⟨qH,trivial⟩ Tryz.func130 (.t (.two (.t (.loop [.s 5] .no)) .no))
theorem yV:FOk Tryz.prog 60 sD:=fk [(17,sC),(110,kD),(129,tN),(130,yN)] ⟨Bc,lY,xU,GD,trivial⟩ Tryz.func60 (.t (.t (.t (.two (.t (.loop [.s 5,.box 4 [(.own 41 y41),(.own 95 y95)]] (.t (.two (.t (.t (.t (.join [.s 8,.box 4 [(.own 41 y41),(.own 95 y95)],.gone 6] .no .no)))) .no)))) .no))))
theorem Ci:FOk Tryz.prog 132 um:=fk [] trivial Tryz.func132 (.t (.t (.two (.t (.loop [.s 5] .no)) .no)))
theorem vu:FOk Tryz.prog 64 oY:=fk [(18,mC),(132,um)] ⟨qH,Ci,trivial⟩ Tryz.func64 (.t (.t (.two (.t (.loop [.s 5] .no)) (.two (.t (.loop [.s 6] .no)) .no))))
theorem kM:FOk Tryz.prog 14 ix:=fk [(60,sD),(64,oY)] ⟨yV,vu,trivial⟩ Tryz.func14 .no
theorem rv:FOk Tryz.prog 58 nV:=fk [] trivial Tryz.func58 (.t (.two (.t (.loop [.s 5] .no)) .no))
theorem Bd:FOk Tryz.prog 128 vj:=fk [] trivial Tryz.func128 (.t (.t (.two (.t (.loop [.s 4,.box 3 [(.num .i64),(.own 4 y4),(.own 47 y47)]] .no)) .no)))
theorem If:FOk Tryz.prog 59 AU:=fk [(128,vj),(129,tN)] ⟨Bd,xU,trivial⟩ Tryz.func59 (.t (.t (.two (.t (.loop [.s 4,.box 3 [(.own 41 y41),(.own 95 y95)]] .no)) (.two (.t (.loop [.s 5,.box 3 [(.own 41 y41),(.own 95 y95)]] .no)) .no))))
theorem xW:FOk Tryz.prog 11 qw:=fk [(14,ix),(58,nV),(59,AU),(60,sD)] ⟨kM,rv,If,yV,trivial⟩ Tryz.func11 (.t (.t (.t (.two (.loop [.s 8] .no) .no)))) (an:=[(40,(.fro y95)),(49,(.fro y95))])
theorem OB:FOk Tryz.prog 304 Gs:=fk [] trivial Tryz.func304 (.t (.t (.t (.two (.t (.loop [.slot 5 (.own 9 y9),.s 6,.s 7] (.t (.two (.at [.slot 5 (.own 9 y9),.s 6] .no) .no)))) .no))))
theorem rN:FOk Tryz.prog 357 nB:=fk [(295,sA)] ⟨yS,trivial⟩ Tryz.func357 .no
theorem Em:FOk Tryz.prog 358 wE:=fk [] trivial Tryz.func358 (.t (.t (.t (.t (.two (.loop [.s 0,.slot 3 .str] (.t (.t (.two (.t (.at [.s 5] .no)) .no)))) .no)))))
theorem Ig:FOk Tryz.prog 336 AW:=fk [(357,nB),(358,wE)] ⟨rN,Em,trivial⟩ Tryz.func336 .no
theorem Be:FOk Tryz.prog 337 sE:=fk [(357,nB)] ⟨rN,trivial⟩ Tryz.func337 (.t (.two (.t (.loop [.s 4] .no)) .no))
theorem Lt:FOk Tryz.prog 305 C3:=fk [(336,AW),(337,sE)] ⟨Ig,Be,trivial⟩ Tryz.func305 (.t (.two (.t (.loop [.s 3] .no)) .no))
theorem En:FOk Tryz.prog 250 wF:=fk [(84,oX),(304,Gs),(305,C3)] ⟨sQ,OB,Lt,trivial⟩ Tryz.func250 (.t (.t (.t (.two (.t (.loop [.s 6,.box 4 [(.own 156 zH)]] .no)) .no))))
end R
namespace R
open Go.RowKit
open D
theorem Lu:FOk Tryz.prog 251 C4:=fk [(102,cB)] ⟨cM,trivial⟩ Tryz.func251 .no
theorem Bf:FOk Tryz.prog 180 vk:=fk [(250,wF),(251,C4)] ⟨En,Lu,trivial⟩ Tryz.func180 .no
theorem sR:FOk Tryz.prog 121 oZ:=fk [(11,qw),(102,cB),(180,vk)] ⟨xW,cM,Bf,trivial⟩ Tryz.func121 (.t (.t (.two (.t (.loop [.s 4,.cur 0,.box 3 [(.own 41 y41),(.own 95 y95)]] .no)) .no)))
theorem Cj:FOk Tryz.prog 253 uo:=fk [] trivial Tryz.func253 .no
theorem Dg: ∀n,FOk Tryz.prog 181 (tP n)
 | 0=>ku (f:=tP 0) (enters_of Tryz.func181 (by kernel_rfl) rfl) rfl (fun d=>rfl)
 | n+1=>by
  have ih:=Dg n
  exact fk [(52,eA),(100,jU),(102,cB),(181,(tP n)),(252,xP),(253,uo),(254,tO)] ⟨ff,kZ,cM,ih,Df,Cj,xV,trivial⟩ Tryz.func181 (.t (.t (.two (.t (.two (.t (.at [.slot 20 .boo] .no)) (.t (.two (.t (.at [.slot 33 .boo] .no)) .no)))) .no)))
theorem Lv:FOk Tryz.prog 99 C5:=fk [(100,jU),(102,cB),(180,vk),(181,(tP fJ))] ⟨kZ,cM,Bf,(Dg fJ),trivial⟩ Tryz.func99 .no
theorem Eo:FOk Tryz.prog 212 wG:=fk [(100,jU),(102,cB)] ⟨kZ,cM,trivial⟩ Tryz.func212 (.t (.t (.t (.two (.t (.loop [.s 5,.box 4 [(.num .i64),(.own 4 .bool),(.own 47 y47)],.cur 0] (.t (.two (.t (.two (.t (.loop [.slot 6 (.own 3 y3),.s 7,.cur 0] (.t (.two (.t (.two (.t (.at [.s 8,.cur 0] .no)) (.two (.t (.at [.s 8] .no)) .no))) .no)))) .no)) .no)))) .no))))
theorem Lw:FOk Tryz.prog 122 C6:=fk [(67,lU),(68,p7),(99,C5),(100,jU),(212,wG)] ⟨pM,uI,Lv,kZ,Eo,trivial⟩ Tryz.func122 .no
theorem Lx:FOk Tryz.prog 51 C7:=fk [(52,eA),(102,cB),(121,oZ),(122,C6)] ⟨ff,cM,sR,Lw,trivial⟩ Tryz.func51 (.t (.t (.two (.t (.at [.cur 0,.box 3 [(.own 41 y41),(.own 95 y95)]] .no)) .no)))
theorem OC:FOk Tryz.prog 75 Gt:=fk [(52,eA),(100,jU),(102,cB)] ⟨ff,kZ,cM,trivial⟩ Tryz.func75 .no
theorem Bg:FOk Tryz.prog 98 vl:=fk [(52,eA),(102,cB)] ⟨ff,cM,trivial⟩ Tryz.func98 (.t (.t (.two (.t (.loop [.s 4,.cur 0,.box 3 [(.own 3 (.int .i64)),(.own 137 Gq)]] .no)) (.t (.two (.t (.loop [.s 5,.s 6,.cur 0,.box 3 [(.own 3 (.int .i64)),(.own 137 Gq)]] .no)) .no)))))
theorem Dh:FOk Tryz.prog 111 xQ:=fk [(110,kD)] ⟨lY,trivial⟩ Tryz.func111 .no
theorem fT:FOk Tryz.prog 44 eU:=fk [(110,kD),(111,xQ)] ⟨lY,Dh,trivial⟩ Tryz.func44 (.t (.two (.t (.loop [.s 3] .no)) (.two (.t (.loop [.s 4] .no)) .no)))
theorem eQ:FOk Tryz.prog 209 dH:=fk [(44,eU),(70,wD),(110,kD)] ⟨fT,A9,lY,trivial⟩ Tryz.func209 (.t (.two (.t (.loop [.s 3] .no)) .no))
theorem k9:FOk Tryz.prog 210 jV:=fk [] trivial Tryz.func210 .no
theorem Ck:FOk Tryz.prog 275 uq:=fk [(209,dH),(210,jV)] ⟨eQ,k9,trivial⟩ Tryz.func275 .no
theorem fq:FOk Tryz.prog 200 dW:=fk [(209,dH)] ⟨eQ,trivial⟩ Tryz.func200 .no
end R
namespace R
open Go.RowKit
open D
theorem Di:FOk Tryz.prog 278 xR:=fk [(210,jV)] ⟨k9,trivial⟩ Tryz.func278 (.t (.t (.two (.t (.loop [.s 4,.box 3 [(.num .i64),(.own 50 y50)]] .no)) .no)))
theorem nW:FOk Tryz.prog 306 lV:=fk [] trivial Tryz.func306 (.t (.two (.t (.loop [.s 5] .no)) .no))
theorem Cl:FOk Tryz.prog 347 ur:=fk [(44,eU),(111,xQ),(210,jV),(306,lV)] ⟨fT,Dh,k9,nW,trivial⟩ Tryz.func347 (.t (.t (.t (.two (.loop [.s 6] .no) .no))))
theorem Cm:FOk Tryz.prog 348 uu:=fk [(44,eU),(210,jV),(306,lV)] ⟨fT,k9,nW,trivial⟩ Tryz.func348 .no
theorem Bh:FOk Tryz.prog 317 vm:=fk [(210,jV),(306,lV),(347,ur),(348,uu)] ⟨k9,nW,Cl,Cm,trivial⟩ Tryz.func317 (.t (.t (.two (.t (.loop [.s 7,.box 6 [(.own 3 y3),(.own 137 Gq)]] (.t (.joinX [.box 6 [(.own 3 y3),(.own 137 Gq)]] .no .no)))) .no)))
theorem Cn:FOk Tryz.prog 315 uv:=fk [(44,eU),(210,jV),(317,vm)] ⟨fT,k9,Bh,trivial⟩ Tryz.func315 .no
theorem Bi:FOk Tryz.prog 276 sF:=fk [(200,dW),(209,dH),(278,xR),(315,uv)] ⟨fq,eQ,Di,Cn,trivial⟩ Tryz.func276 (.t (.t (.t (.t (.t (.t (.two (.t (.at [.box 6 [(.num .i64),(.own 50 y50)]] .no)) .no))))))) (an:=[(48,.bool)])
theorem Ly:FOk Tryz.prog 316 C8:=fk [(52,eA),(102,cB)] ⟨ff,cM,trivial⟩ Tryz.func316 (.t (.t (.two (.t (.at [.cur 0,.box 5 [(.num .i64),(.num .i64),(.num .i64),(.num .i64)]] .no)) .no)))
theorem Ih:FOk Tryz.prog 277 AX:=fk [(100,jU),(102,cB),(210,jV),(316,C8),(317,vm)] ⟨kZ,cM,k9,Ly,Bh,trivial⟩ Tryz.func277 (.t (.t (.t (.two (.t (.loop [.s 9,.cur 0,.box 8 [(.own 3 y3),(.own 137 Gq)],.box 7 [(.own 328 Zg)]] (.t (.two (.at [.cur 0,.box 8 [(.own 3 y3),(.own 137 Gq)],.box 7 [(.own 328 Zg)]] (.t (.two (.t (.at [.cur 0,.box 10 [.boo,(.num .i64),(.num .i64),(.num .i64),(.num .i64)]] .no)) (.two (.t (.at [.box 10 [.boo,(.num .i64),(.num .i64),(.num .i64),(.num .i64)]] .no)) .no)))) .no)))) .no))))
theorem wQ:FOk Tryz.prog 198 rq:=fk [(52,eA),(98,vl),(102,cB),(275,uq),(276,sF),(277,AX)] ⟨ff,Bg,cM,Ck,Bi,Ih,trivial⟩ Tryz.func198 (.t (.t (.two (.t (.loop [.s 5,.cur 0,.box 3 [(.num .i64),(.own 50 y50)]] .no)) .no))) (tr:=[(50,0,.bool)])
theorem wR:FOk Tryz.prog 199 pD:=fk [(110,kD),(200,dW),(209,dH),(278,xR)] ⟨lY,fq,eQ,Di,trivial⟩ Tryz.func199 .no (an:=[(28,.bool)])
theorem OD:FOk Tryz.prog 74 Gu:=fk [(52,eA),(98,vl),(102,cB)] ⟨ff,Bg,cM,trivial⟩ Tryz.func74 (.t (.t (.two (.t (.at [.cur 0,.box 3 [(.own 3 y3),(.own 137 Gq)]] .no)) .no)))
theorem OE:FOk Tryz.prog 201 Gv:=fk [(52,eA),(74,Gu),(102,cB),(198,rq)] ⟨ff,OD,cM,wQ,trivial⟩ Tryz.func201 (.t (.t (.two (.t (.at [.cur 0,.box 3 [(.num .i64),(.own 50 y50)]] .no)) .no)))
theorem Lz:FOk Tryz.prog 113 C9:=fk [(51,C7),(52,eA),(75,Gt),(100,jU),(102,cB),(121,oZ),(198,rq),(199,pD),(200,dW),(201,Gv)] ⟨Lx,ff,OC,kZ,cM,sR,wQ,wR,fq,OE,trivial⟩ Tryz.func113 (.t (.t (.t (.two (.t (.at [.box 5 [(.num .i64),(.own 50 y50)],.cur 0] .no)) (.t (.two (.t (.at [.cur 0,.box 7 [(.num .i64),(.num .i64),(.num .i64)],.box 5 [(.num .i64),(.own 50 y50)],.box 6 [(.own 41 y41),(.own 95 y95)]] .no)) .no))))))
theorem Bj:FOk Tryz.prog 203 vn:=fk [(14,ix),(58,nV),(200,dW),(209,dH)] ⟨kM,rv,fq,eQ,trivial⟩ Tryz.func203 .no
theorem wS:FOk Tryz.prog 77 pE:=fk [(14,ix),(58,nV),(128,vj)] ⟨kM,rv,Bd,trivial⟩ Tryz.func77 .no
theorem Ii:FOk Tryz.prog 221 AY:=fk [(110,kD)] ⟨lY,trivial⟩ Tryz.func221 (.t (.t (.t (.two (.t (.loop [.s 4] (.t (.two (.t (.t (.loop [.s 5] .no))) .no)))) .no))))
end R
namespace R
open Go.RowKit
open D
theorem ua:FOk Tryz.prog 143 nJ:=fk [(221,AY)] ⟨Ii,trivial⟩ Tryz.func143 .no
theorem Ij:FOk Tryz.prog 147 AZ:=fk [(44,eU),(110,kD),(143,nJ)] ⟨fT,lY,ua,trivial⟩ Tryz.func147 .no
theorem LA:FOk Tryz.prog 184 Da:=fk [] trivial Tryz.func184 (.t (.t (.two (.t (.loop [.slot 5 (.own 206 VW),.s 6] (.t (.join [.slot 5 (.own 206 VW)] (.join [.slot 5 (.own 206 VW)] .no .no) .no)))) .no)))
theorem uJ:FOk Tryz.prog 293 p8:=fk [] trivial Tryz.func293 (.t (.t (.two (.loop [.s 1,.s 7] .no) .no)))
theorem Ep:FOk Tryz.prog 307 wH:=fk [] trivial Tryz.func307 .no
theorem OF:FOk Tryz.prog 308 Gw:=fk [] trivial Tryz.func308 .no
theorem GE:FOk Tryz.prog 270 yO:=fk [(184,Da),(293,p8),(306,lV),(307,wH),(308,Gw)] ⟨LA,uJ,nW,Ep,OF,trivial⟩ Tryz.func270 (.t (.t (.t (.t (.two (.t (.loop [.slot 9 (.own 275 XY),.s 12] (.t (.two (.t (.t (.two (.t (.loop [.s 14,.s 15] (.t (.join [.s 14] .no .no)))) (.t (.loop [.slot 9 (.own 275 XY),.s 17] (.t (.join [.slot 9 (.own 275 XY)] .no .no))))))) .no)))) .no)))))
theorem GF:FOk Tryz.prog 226 yP:=fk [(270,yO)] ⟨GE,trivial⟩ Tryz.func226 (.t (.t (.t (.two (.t (.loop [.slot 8 (.own 3 y3),.s 9] .no)) (.t (.t (.two (.t (.loop [.row 8 3 y3,.slot 10 (.own 3 y3),.s 11] (.t (.two (.t (.t (.loop [.row 8 3 y3,.slot 10 (.own 3 y3),.s 13] (.t (.join [.row 8 3 y3,.slot 10 (.own 3 y3)] .no .no))))) .no)))) .no)))))))
theorem Co:FOk Tryz.prog 227 uw:=fk [(293,p8)] ⟨uJ,trivial⟩ Tryz.func227 (.t (.t (.two (.t (.loop [.s 10] .no)) .no)))
theorem OG:FOk Tryz.prog 228 Gx:=fk [] trivial Tryz.func228 (.t (.t (.two (.t (.loop [.slot 3 (.own 3 y3),.s 4] (.t (.join [.slot 3 (.own 3 y3)] .no .no)))) .no)))
theorem Ik:FOk Tryz.prog 148 A0:=fk [(226,yP),(227,uw),(228,Gx)] ⟨GF,Co,OG,trivial⟩ Tryz.func148 (.t (.t (.t (.t (.two (.t (.loop [.s 9,.s 10] (.t (.join [.s 9] .no .no)))) .no)))))
theorem Cp:FOk Tryz.prog 79 uy:=fk [(147,AZ),(148,A0)] ⟨Ij,Ik,trivial⟩ Tryz.func79 (.t (.t (.two (.t (.loop [.slot 5 (.own 65 y65),.s 6] (.t (.two (.t (.t (.loop [.slot 5 (.own 65 y65),.s 8] .no))) .no)))) .no)))
theorem rO:FOk Tryz.prog 26 nC:=fk [(44,eU),(77,pE),(79,uy)] ⟨fT,wS,Cp,trivial⟩ Tryz.func26 .no
theorem Bk:FOk Tryz.prog 119 vo:=fk [(110,kD),(200,dW),(209,dH),(210,jV)] ⟨lY,fq,eQ,k9,trivial⟩ Tryz.func119 .no
theorem xX:FOk Tryz.prog 149 tQ:=fk [] trivial Tryz.func149 (.t (.two (.t (.loop [.s 5] .no)) .no))
theorem Bl:FOk Tryz.prog 193 vp:=fk [] trivial Tryz.func193 .no
theorem Dj:FOk Tryz.prog 150 xS:=fk [(193,vp)] ⟨Bl,trivial⟩ Tryz.func150 (.t (.t (.two (.loop [.s 5] .no) .no))) (an:=[(36,.bool)])
end R
namespace R
open Go.RowKit
open D
theorem qI:FOk Tryz.prog 80 mD:=fk [(149,tQ),(150,xS)] ⟨xX,Dj,trivial⟩ Tryz.func80 (.t (.t (.two (.t (.loop [.slot 5 (.own 65 y65),.s 6] (.t (.join [.slot 5 (.own 65 y65)] .no .no)))) .no)))
theorem zh:FOk Tryz.prog 279 rG:=fk [(80,mD)] ⟨qI,trivial⟩ Tryz.func279 .no
theorem uK:FOk Tryz.prog 204 p9:=fk [(26,nC),(119,vo),(279,rG)] ⟨rO,Bk,zh,trivial⟩ Tryz.func204 .no
theorem Bm:FOk Tryz.prog 202 sG:=fk [(203,vn),(204,p9)] ⟨Bj,uK,trivial⟩ Tryz.func202 .no
theorem xY:FOk Tryz.prog 114 qx:=fk [(202,sG)] ⟨Bm,trivial⟩ Tryz.func114 (.t (.t (.two (.t (.loop [.slot 8 (.own 86 y86),.s 9,.box 5 [(.num .i64),(.num .i64),(.num .i64)]] .no)) .no)))
theorem Bn:FOk Tryz.prog 115 sH:=fk [(200,dW),(203,vn),(204,p9)] ⟨fq,Bj,uK,trivial⟩ Tryz.func115 .no
theorem sS:FOk Tryz.prog 46 nl:=fk [(50,Gr),(100,jU),(102,cB),(113,C9),(114,qx),(115,sH)] ⟨OA,kZ,cM,Lz,xY,Bn,trivial⟩ Tryz.func46 (.t (.t (.t (.t (.two (.t (.at [.cur 7,.box 10 [(.num .i64),(.num .i64),(.num .i64)]] .no)) (.t (.two (.t (.at [.slot 11 (.own 86 y86),.gone 42] .no)) (.two (.t (.at [.slot 11 (.own 86 (.prod y3 (.prod y4 y84)))] .no)) .no)))))))) (an:=[(50,.bool)])
theorem nX:FOk Tryz.prog 89 iS:=fk [] trivial Tryz.func89 (.t (.t (.two (.t (.loop [.s 13] .no)) .no)))
theorem gb:FOk Tryz.prog 90 da:=fk [] trivial Tryz.func90 (.t (.t (.two (.t (.loop [.s 17] .no)) .no)))
theorem fL:FOk Tryz.prog 92 dL:=fk [] trivial Tryz.func92 (.t (.t (.two (.t (.loop [.s 13] .no)) .no)))
theorem vv:FOk Tryz.prog 91 o0:=fk [(92,dL)] ⟨fL,trivial⟩ Tryz.func91 .no
theorem qJ:FOk Tryz.prog 33 mE:=fk [(89,iS),(90,da),(91,o0)] ⟨nX,gb,vv,trivial⟩ Tryz.func33 .no
theorem dy:FOk Tryz.prog 61 bJ:=fk [] trivial Tryz.func61 (.t (.t (.two (.t (.loop [.s 17] .no)) .no)))
theorem dg:FOk Tryz.prog 62 bE:=fk [] trivial Tryz.func62 (.t (.t (.two (.t (.loop [.s 17] .no)) .no)))
theorem nq:FOk Tryz.prog 214 gZ:=fk [] trivial Tryz.func214 (.t (.t (.two (.t (.loop [.s 13] .no)) .no)))
theorem Cq:FOk Tryz.prog 131 uz:=fk [(214,gZ)] ⟨nq,trivial⟩ Tryz.func131 .no
theorem zi:FOk Tryz.prog 63 rH:=fk [(131,uz)] ⟨Cq,trivial⟩ Tryz.func63 .no
end R
namespace R
open Go.RowKit
open D
theorem vx:FOk Tryz.prog 12 o6:=fk [(33,mE),(61,bJ),(62,bE),(63,rH)] ⟨qJ,dy,dg,zi,trivial⟩ Tryz.func12 .no
theorem iM:FOk Tryz.prog 96 gV:=fk [] trivial Tryz.func96 .no
theorem yW:FOk Tryz.prog 229 sI:=fk [(96,gV)] ⟨iM,trivial⟩ Tryz.func229 .no
theorem Il:FOk Tryz.prog 152 A1:=fk [(96,gV),(229,sI)] ⟨iM,yW,trivial⟩ Tryz.func152 (.t (.two (.t (.t (.t (.t (.t (.join [.slot 37 .boo] .no .no)))))) .no))
theorem nF:FOk Tryz.prog 153 bL:=Gk (f:=bL) (ku (f:=⟨bL.ps,bL.rs,bL.m,none⟩) (enters_of Tryz.func153 (by kernel_rfl) rfl) rfl (fun d=>rfl)) (JT (V:=⟨tt,[],[(5,.raw)],8,[]⟩) Oy trivial mixed Tryz.func153 rfl rfl (enters_of Tryz.func153 (by kernel_rfl) rfl) (bC rfl) .no (fun E bn xs=>by cases bn <;> kernel_rfl))
theorem xZ:FOk Tryz.prog 82 tR:=fk [(152,A1),(153,bL)] ⟨Il,nF,trivial⟩ Tryz.func82 (.t (.t (.two (.t (.loop [.slot 3 (.own 116 ZL),.s 13] (.t (.t (.two (.t (.t (.two (.t (.at [.s 6] (.two (.t (.at [.slot 19 .boo] .no)) (.t (.two (.t (.at [.slot 22 .boo] .no)) .no))))) .no))) .no))))) .no))) (tr:=[(187,116,zH)])
theorem LB:FOk Tryz.prog 151 Db:=fk [(82,tR)] ⟨xZ,trivial⟩ Tryz.func151 .no (tr:=[(187,116,zH)])
theorem Bo:FOk Tryz.prog 81 sJ:=fk [(151,Db)] ⟨LB,trivial⟩ Tryz.func81 .no
theorem uL: ∀n,FOk Tryz.prog 234 (mY n)
 | 0=>ku (f:=mY 0) (enters_of Tryz.func234 (by kernel_rfl) rfl) rfl (fun d=>rfl)
 | n+1=>by
  have ih:=uL n
  exact fk [(234,(mY n))] ⟨ih,trivial⟩ Tryz.func234 (.t (.t (.two (.t (.loop [.s 3,.s 11] (.t (.t (.two (.at [.s 3] .no) .no))))) .no))) (tr:=[(187,116,zH)])
theorem RP:FOk Tryz.prog 320 JW:=fk [] trivial Tryz.func320 .no (tr:=[(187,116,zH)])
theorem yX: ∀n,FOk Tryz.prog 296 (pF n)
 | 0=>ku (f:=pF 0) (enters_of Tryz.func296 (by kernel_rfl) rfl) rfl (fun d=>rfl)
 | n+1=>by
  have ih:=yX n
  exact fk [(296,(pF n)),(320,JW)] ⟨ih,RP,trivial⟩ Tryz.func296 .no (tr:=[(187,116,zH)])
theorem sU: ∀n,FOk Tryz.prog 235 (lW n)
 | 0=>ku (f:=lW 0) (enters_of Tryz.func235 (by kernel_rfl) rfl) rfl (fun d=>rfl)
 | n+1=>by
  have ih:=sU n
  exact fk [(235,(lW n)),(296,(pF fJ))] ⟨ih,(yX fJ),trivial⟩ Tryz.func235 (.t (.t (.t (.two (.t (.loop [.s 41,.box 3 [(.num .i64),(.num .i64),(.num .i64),(.num .i64),(.own 116 (.tree 187 116 zH))]] .no)) .no)))) (an:=[(52,t116)]) (tr:=[(187,116,zH)])
theorem rP: ∀n,FOk Tryz.prog 297 (kE n)
 | 0=>ku (f:=kE 0) (enters_of Tryz.func297 (by kernel_rfl) rfl) rfl (fun d=>rfl)
 | n+1=>by
  have ih:=rP n
  exact fk [(297,(kE n))] ⟨ih,trivial⟩ Tryz.func297 (.two (.t (.loop [.s 11,.box 1 [(.own 156 zH)]] .no)) .no) (tr:=[(187,116,zH)])
theorem Er:FOk Tryz.prog 236 wI:=fk [(297,(kE fJ))] ⟨(rP fJ),trivial⟩ Tryz.func236 .no (tr:=[(187,116,zH)])
theorem Cr:FOk Tryz.prog 168 uA:=fk [(81,sJ),(82,tR),(234,(mY fJ)),(235,(lW fJ)),(236,wI)] ⟨Bo,xZ,(uL fJ),(sU fJ),Er,trivial⟩ Tryz.func168 .no (tr:=[(187,116,zH)])
theorem ub:FOk Tryz.prog 237 nK:=fk [] trivial Tryz.func237 (.t (.loop [.s 12,.par 4 [3] 3 y3] (.t (.t (.two (.at [.par 4 [3] 3 y3] .no) .no)))))
theorem pc: ∀n,FOk Tryz.prog 169 (iy n)
 | 0=>ku (f:=iy 0) (enters_of Tryz.func169 (by kernel_rfl) rfl) rfl (fun d=>rfl)
 | n+1=>by
  have ih:=pc n
  exact fk [(169,(iy n)),(237,nK)] ⟨ih,ub,trivial⟩ Tryz.func169 (.t (.two (.t (.t (.t (.t (.t (.t (.t (.t (.two (.t (.t (.t (.two (.t (.at [.box 10 [(.num .i64),(.num .i64),.boo]] .no)) (.two (.t (.at [.box 10 [(.num .i64),(.num .i64),.boo]] .no)) .no))))) .no))))))))) .no)) (tr:=[(187,116,zH)])
end R
namespace R
open Go.RowKit
open D
theorem wT:FOk Tryz.prog 86 pG:=fk [(82,tR),(168,uA),(169,(iy fJ))] ⟨xZ,Cr,(pc fJ),trivial⟩ Tryz.func86 (.t (.t (.t (.t (.two (.t (.loop [.s 6,.s 22] (.t (.t (.two (.at [.s 6] .no) .no))))) .no))))) (tr:=[(187,116,zH)])
theorem rQ:FOk Tryz.prog 170 nD:=fk [] trivial Tryz.func170 (.t (.t (.t (.t (.two (.t (.loop [.slot 10 (.own 3 y3),.slot 11 (.map ⟨3,3,.int,.int⟩),.s 13,.box 12 [(.num .i64),(.own 4 y4),(.own 47 y47)]] (.t (.two (.t (.two (.t (.loop [.slot 10 (.own 3 y3),.slot 11 (.map ⟨3,3,.int,.int⟩),.slot 14 (.own 3 y3),.s 15] (.t (.join [.slot 10 (.own 3 y3),.slot 11 (.map ⟨3,3,.int,.int⟩),.slot 14 (.own 3 y3)] (.t (.t (.t (.join [.slot 10 (.own 3 y3),.slot 11 (.map ⟨3,3,.int,.int⟩),.s 18] .no .no)))) .no)))) .no)) .no)))) .no)))))
theorem sV:FOk Tryz.prog 171 nm:=fk [] trivial Tryz.func171 .no
theorem vy:FOk Tryz.prog 173 o7:=fk [] trivial Tryz.func173 (.t (.t (.join [.s 7] .no (.two (.t (.loop [.s 7,.s 21] (.t (.t (.join [.s 7] .no .no))))) (.t (.two (.t (.loop [.s 10,.s 39] (.t (.t (.join [.s 10] .no .no))))) .no))))))
theorem ya:FOk Tryz.prog 172 qy:=fk [(173,o7)] ⟨vy,trivial⟩ Tryz.func172 .no
theorem Bp:FOk Tryz.prog 87 sK:=fk [(170,nD),(171,nm),(172,qy)] ⟨rQ,sV,ya,trivial⟩ Tryz.func87 .no
theorem nY:FOk Tryz.prog 321 bT:=Gk (f:=bT) (ku (f:=⟨bT.ps,bT.rs,bT.m,none⟩) (enters_of Tryz.func321 (by kernel_rfl) rfl) rfl (fun d=>rfl)) (JT (V:=⟨tt,[],[(5,.raw)],8,[]⟩) Oy trivial mixed Tryz.func321 rfl rfl (enters_of Tryz.func321 (by kernel_rfl) rfl) (bC rfl) .no (fun E bn xs=>by cases bn <;> kernel_rfl))
theorem wU:FOk Tryz.prog 298 pH:=fk [(321,bT)] ⟨nY,trivial⟩ Tryz.func298 (.t (.t (.two (.t (.loop [.slot 4 .boo,.row 3 4 y4] (.t (.t (.t (.loop [.slot 4 .boo,.s 16,.row 3 4 y4] (.t (.t (.two (.t (.t (.loop [.slot 4 .boo,.s 23,.row 3 4 y4] (.t (.t (.two (.at [.slot 4 .boo,.row 3 4 y4] .no) .no)))))) .no))))))))) .no)))
theorem lr:FOk Tryz.prog 322 fI:=fk [] trivial Tryz.func322 (.t (.two (.t (.loop [.s 8] .no)) .no))
theorem rW:FOk Tryz.prog 323 me:=fk [(92,dL)] ⟨fL,trivial⟩ Tryz.func323 .no
theorem uc:FOk Tryz.prog 299 nL:=fk [(322,fI),(323,me)] ⟨lr,rW,trivial⟩ Tryz.func299 (.t (.t (.t (.two (.t (.loop [.slot 6 (.own 47 y47),.slot 7 (.own 3 y3),.s 18] (.t (.t (.join [.slot 6 (.own 47 y47),.slot 7 (.own 3 y3)] (.t (.t (.t (.two (.t (.loop [.s 36,.box 10 [(.own 3 y3)]] (.t (.t (.two (.t (.join [.s 12] .no .no)) .no))))) (.t (.join [.slot 6 (.own 47 y47),.s 13,.gone 10] .no .no)))))) .no))))) .no))))
theorem sW:FOk Tryz.prog 238 np:=fk [(298,pH),(299,nL)] ⟨wU,uc,trivial⟩ Tryz.func238 (.t (.t (.two (.t (.loop [.slot 3 (.own 3 y3),.s 13] (.t (.t (.join [.slot 3 (.own 3 y3)] .no .no))))) (.t (.loop [.slot 3 (.own 3 y3),.s 6] .no)))))
theorem vz:FOk Tryz.prog 349 o8:=fk [] trivial Tryz.func349 .no
theorem vA:FOk Tryz.prog 350 o9:=fk [] trivial Tryz.func350 .no
theorem yc:FOk Tryz.prog 324 qz:=fk [(349,o8),(350,o9)] ⟨vz,vA,trivial⟩ Tryz.func324 .no
theorem jE:FOk Tryz.prog 300 fB:=fk [(324,qz)] ⟨yc,trivial⟩ Tryz.func300 (.t (.t (.t (.t (.t (.t (.two (.loop [.s 8,.row 7 3 (.int .i64)] .no) .no))))))) (an:=[(44,.bool)])
theorem Im:FOk Tryz.prog 239 A2:=fk [(300,fB)] ⟨jE,trivial⟩ Tryz.func239 .no
end R
namespace R
open Go.RowKit
open D
theorem po:FOk Tryz.prog 178 jW:=fk [] trivial Tryz.func178 (.t (.two (.t (.loop [.s 8] .no)) .no))
theorem qK:FOk Tryz.prog 240 kW:=fk [(178,jW)] ⟨po,trivial⟩ Tryz.func240 .no
theorem qL:FOk Tryz.prog 241 kX:=fk [] trivial Tryz.func241 .no
theorem lZ:FOk Tryz.prog 243 iT:=fk [(229,sI)] ⟨yW,trivial⟩ Tryz.func243 .no
theorem qM:FOk Tryz.prog 242 kY:=fk [(243,iT)] ⟨lZ,trivial⟩ Tryz.func242 .no
theorem rX:FOk Tryz.prog 174 mf:=fk [(170,nD),(238,np),(239,A2),(240,kW),(241,kX),(242,kY)] ⟨rQ,sW,Im,qK,qL,qM,trivial⟩ Tryz.func174 .no
theorem OH:FOk Tryz.prog 88 Gy:=fk [(174,mf)] ⟨rX,trivial⟩ Tryz.func88 .no
theorem Bq:FOk Tryz.prog 32 sL:=fk [(86,pG),(87,sK),(88,Gy)] ⟨wT,Bp,OH,trivial⟩ Tryz.func32 .no
theorem GG:FOk Tryz.prog 123 yQ:=fk [] trivial Tryz.func123 .no
theorem iF:FOk Tryz.prog 124 dJ:=fk [] trivial Tryz.func124 (.t (.two (.t (.loop [.s 8] .no)) .no))
theorem GH:FOk Tryz.prog 125 yR:=fk [(33,mE)] ⟨qJ,trivial⟩ Tryz.func125 .no
theorem LC:FOk Tryz.prog 55 Dc:=fk [(32,sL),(96,gV),(123,yQ),(124,dJ),(125,yR)] ⟨Bq,iM,GG,iF,GH,trivial⟩ Tryz.func55 (.t (.t (.two (.t (.loop [.s 13,.box 4 [(.own 41 y41),(.own 95 y95)]] (.t (.t (.two (.t (.t (.t (.t (.join [.s 9,.box 4 [(.own 41 y41),(.own 95 y95)],.gone 7] .no .no))))) .no))))) .no)))
theorem vB:FOk Tryz.prog 13 pa:=fk [(12,o6),(55,Dc)] ⟨vx,LC,trivial⟩ Tryz.func13 .no
theorem gY:FOk Tryz.prog 71 dx:=fk [] trivial Tryz.func71 (.t (.two (.t (.loop [.s 8] .no)) .no))
theorem Br:FOk Tryz.prog 72 sM:=fk [] trivial Tryz.func72 .no
theorem Es:FOk Tryz.prog 19 wJ:=fk [(71,dx),(72,sM)] ⟨gY,Br,trivial⟩ Tryz.func19 .no
theorem sX:FOk Tryz.prog 133 pI:=fk [] trivial Tryz.func133 .no
end R
namespace R
open Go.RowKit
open D
theorem yd:FOk Tryz.prog 66 qA:=fk [(133,pI)] ⟨sX,trivial⟩ Tryz.func66 (.t (.t (.two (.t (.loop [.s 16,.box 3 [(.num .i64),(.own 4 y4),(.own 47 y47)]] .no)) .no)))
theorem wV:FOk Tryz.prog 16 pJ:=fk [(13,pa),(19,wJ),(66,qA)] ⟨vB,Es,yd,trivial⟩ Tryz.func16 .no
theorem LD:FOk Tryz.prog 146 Dd:=fk [(96,gV)] ⟨iM,trivial⟩ Tryz.func146 .no
theorem nG:FOk Tryz.prog 78 kF:=fk [(96,gV),(146,Dd)] ⟨iM,LD,trivial⟩ Tryz.func78 (.t (.t (.two (.t (.loop [.s 14] .no)) (.two (.t (.loop [.s 25] .no)) .no))))
theorem ud:FOk Tryz.prog 145 nM:=fk [(96,gV)] ⟨iM,trivial⟩ Tryz.func145 (.t (.t (.t (.two (.t (.loop [.s 32] (.t (.t (.two (.t (.two (.t (.loop [.s 38] .no)) .no)) .no))))) .no))))
theorem Dk:FOk Tryz.prog 93 xT:=fk [(78,kF),(96,gV),(145,nM)] ⟨nG,iM,ud,trivial⟩ Tryz.func93 (.t (.two (.t (.loop [.s 11] .no)) .no))
theorem LF:FOk Tryz.prog 244 De:=fk [(300,fB)] ⟨jE,trivial⟩ Tryz.func244 (.t (.t (.t (.two (.t (.loop [.slot 6 (.own 3 (.int .i64)),.s 18,.row 5 3 y3] .no)) (.two (.loop [.slot 6 (.own 3 (.int .i64)),.row 5 3 y3] (.t (.two (.t (.loop [.slot 6 (.own 3 y3),.s 42,.row 5 3 y3] (.t (.t (.two (.at [.slot 6 (.own 3 y3),.row 5 3 y3] .no) .no))))) .no))) .no))))) (an:=[(34,.bool)])
theorem OI:FOk Tryz.prog 294 Gz:=fk [] trivial Tryz.func294 .no
theorem RQ:FOk Tryz.prog 230 JX:=fk [(294,Gz)] ⟨OI,trivial⟩ Tryz.func230 (.t (.t (.two (.t (.loop [.s 13,.row 3 238 ZN] .no)) .no)))
theorem vC:FOk Tryz.prog 246 rr:=fk [] trivial Tryz.func246 (.t (.t (.two (.t (.loop [.slot 3 (.own 3 y3),.s 4] (.t (.join [.slot 3 (.own 3 y3)] .no .no)))) .no)))
theorem Bs:FOk Tryz.prog 247 vq:=fk [(243,iT)] ⟨lZ,trivial⟩ Tryz.func247 (.t (.t (.two (.t (.loop [.s 7,.s 8] .no)) .no)))
theorem OJ:FOk Tryz.prog 301 GB:=fk [(243,iT),(246,rr),(247,vq)] ⟨lZ,vC,Bs,trivial⟩ Tryz.func301 (.t (.t (.two (.t (.loop [.s 9,.s 18] (.t (.t (.two (.t (.t (.loop [.s 9,.s 28] (.t (.t (.join [.s 9] .no .no)))))) .no))))) .no)))
theorem zj:FOk Tryz.prog 245 rI:=fk [(230,JX),(246,rr),(301,GB)] ⟨RQ,vC,OJ,trivial⟩ Tryz.func245 (.t (.t (.t (.two (.t (.loop [.s 26,.row 6 47 y47] (.t (.t (.two (.t (.t (.loop [.s 9,.row 6 47 y47] (.t (.two (.t (.loop [.s 38,.row 6 47 y47] (.t (.t (.two (.t (.t (.loop [.s 55,.row 6 47 y47] .no))) .no))))) .no))))) .no))))) .no))))
theorem ye:FOk Tryz.prog 175 qB:=aaW (V:=⟨tt,[(93,xT),(244,De),(245,rI)],[(1000000,.raw)],26,[]⟩) Oy ⟨Dk,LF,zj,trivial⟩ mixed Tryz.func175 rfl rfl (enters_of Tryz.func175 (by kernel_rfl) rfl) ⟨rfl,rfl⟩ (bC rfl) rfl .no (fun d=>by kernel_rfl)
theorem Et:FOk Tryz.prog 176 wK:=fk [(246,rr),(247,vq)] ⟨vC,Bs,trivial⟩ Tryz.func176 (.t (.two (.t (.loop [.s 14] (.t (.t (.two (.t (.t (.loop [.s 24] .no))) .no))))) .no))
theorem qb:FOk Tryz.prog 248 kt:=Ow Ib (enters_of Tryz.func248 (by kernel_rfl) rfl) 3
theorem nZ:FOk Tryz.prog 249 iU:=fk [] trivial Tryz.func249 (.t (.t (.two (.t (.loop [.s 3] (.t (.two (.t (.two (.t (.two (.t (.loop [.s 3,.s 5,.row 0 3 y3] (.t (.two (.at [.s 3,.row 0 3 y3] .no) .no)))) .no)) .no)) .no)))) .no))) (an:=[(28,.raw),(56,.raw),(59,.raw)])
end R
namespace R
open Go.RowKit
open D
theorem Eu:FOk Tryz.prog 177 wL:=fk [(133,pI),(248,kt),(249,iU)] ⟨sX,qb,nZ,trivial⟩ Tryz.func177 .no
theorem Bt:FOk Tryz.prog 94 sN:=fk [(175,qB),(176,wK),(177,wL)] ⟨ye,Et,Eu,trivial⟩ Tryz.func94 (.t (.t (.t (.two (.t (.loop [.slot 7 (.own 3 y3),.s 20] (.t (.t (.two (.at [.slot 7 (.own 3 y3)] .no) .no))))) .no))))
theorem Cs:FOk Tryz.prog 34 uB:=fk [(93,xT),(94,sN)] ⟨Dk,Bt,trivial⟩ Tryz.func34 (.t (.t (.t (.two (.t (.loop [.slot 5 (.own 65 y65),.s 17] (.t (.t (.two (.t (.t (.loop [.slot 5 (.own 65 y65),.s 25] .no))) .no))))) .no))))
theorem zk:FOk Tryz.prog 25 rJ:=fk [(16,pJ),(34,uB),(78,kF)] ⟨wV,Cs,nG,trivial⟩ Tryz.func25 .no
theorem pN:FOk Tryz.prog 280 lX:=fk [(78,kF),(92,dL),(96,gV)] ⟨nG,fL,iM,trivial⟩ Tryz.func280 (.t (.t (.t (.two (.t (.loop [.s 24] .no)) .no))))
theorem yf:FOk Tryz.prog 281 qC:=fk [(280,lX)] ⟨pN,trivial⟩ Tryz.func281 .no
theorem Ev:FOk Tryz.prog 282 wM:=fk [(133,pI)] ⟨sX,trivial⟩ Tryz.func282 .no
theorem Io:FOk Tryz.prog 205 A3:=fk [(96,gV),(280,lX),(281,qC),(282,wM)] ⟨iM,pN,yf,Ev,trivial⟩ Tryz.func205 .no
theorem Ew:FOk Tryz.prog 116 wN:=fk [(25,rJ),(205,A3)] ⟨zk,Io,trivial⟩ Tryz.func116 .no
theorem Bu:FOk Tryz.prog 179 sO:=fk [] trivial Tryz.func179 .no
theorem rR:FOk Tryz.prog 97 nE:=fk [(179,sO)] ⟨Bu,trivial⟩ Tryz.func97 .no
theorem sY:FOk Tryz.prog 38 pK:=fk [(96,gV),(97,nE)] ⟨iM,rR,trivial⟩ Tryz.func38 (.t (.two (.t (.loop [.s 7] .no)) .no))
theorem gu:FOk Tryz.prog 258 dK:=fk [] trivial Tryz.func258 (.t (.two (.t (.loop [.s 8] .no)) .no))
theorem l5:FOk Tryz.prog 186 ga:=fk [(258,dK)] ⟨gu,trivial⟩ Tryz.func186 (.t (.t (.t (.two (.t (.loop [.s 5,.s 6,.row 0 65 y65] (.t (.two (.at [.s 5,.row 0 65 y65] .no) .no)))) .no)))) (an:=[(38,.raw),(41,.raw)])
theorem ma (a b:Int) (W:World):Calls Tryz.prog 179 #[.int .i64 a,.int .i64 b] W fun e w'=>e= .returned (.int .i64 (cmpI a b))/\w'=W:=by
 unfold cmpI
 by_cases h:a<b
 ·go_enter Tryz.func179,Tryz.ntmps179
  go_wp2
  go_ret
  simp[h]
 ·by_cases k:b<a
  ·go_enter Tryz.func179,Tryz.ntmps179
   go_wp2
   go_ret
   simp[h,k]
  ·go_enter Tryz.func179,Tryz.ntmps179
   go_wp2
   go_ret
   simp[h,k]
theorem mb (x y:Int×Int) (W:World):Calls Tryz.prog 97 #[.agg #[.int .i64 x.1,.int .i64 x.2],.agg #[.int .i64 y.1,.int .i64 y.2]] W fun e w'=>e= .returned (.int .i64 (Lo x y))/\ ∃q os',w'=Go.Sort.grow (W.drewN q) os':=by
 unfold Lo
 have hcon:=ma
 generalize cmpI=cf at hcon⊢
 by_cases h:x.1=y.1
 ·rw[if_pos h]
  go_enter Tryz.func97,Tryz.ntmps97
  go_wp2_with (go_at_call 179;refine (hcon _ _ _).mono ?_;rintro e w' ⟨rfl,rfl⟩)
  go_ret
  exact ⟨rfl,0,_,by rw[Go.Sort.alloc_eq_grow,Go.Sort.alloc_eq_grow,Go.Sort.grow_grow];rfl⟩
 ·rw[if_neg h]
  go_enter Tryz.func97,Tryz.ntmps97
  go_wp2_with (go_at_call 179;refine (hcon _ _ _).mono ?_;rintro e w' ⟨rfl,rfl⟩)
  go_ret
  exact ⟨rfl,0,_,by rw[Go.Sort.alloc_eq_grow,Go.Sort.alloc_eq_grow,Go.Sort.grow_grow];rfl⟩
theorem mF:FOk Tryz.prog 259 gW:=Ot Cc (by intro w;kernel_rfl) (by intro w;kernel_rfl) RL RM (enters_of Tryz.func97 (by kernel_rfl) rfl) (fun _ _ _ _ _ _ _ _ x y=>mb x y _) (enters_of Tryz.func259 (by kernel_rfl) rfl) 65
theorem nr:FOk Tryz.prog 260 hY:=fk [] trivial Tryz.func260 (.t (.t (.two (.t (.loop [.s 3] (.t (.two (.t (.two (.t (.two (.t (.loop [.s 3,.s 5,.row 0 65 y65] (.t (.two (.at [.s 3,.row 0 65 y65] .no) .no)))) .no)) .no)) .no)))) .no))) (an:=[(28,.raw),(56,.raw),(59,.raw)])
theorem Bv:FOk Tryz.prog 187 vr:=fk [(97,nE),(259,gW),(260,hY)] ⟨rR,mF,nr,trivial⟩ Tryz.func187 .no
end R
namespace R
open Go.RowKit
open D
theorem n9:FOk Tryz.prog 261 iV:=fk [] trivial Tryz.func261 (.t (.two (.t (.loop [.s 8] .no)) .no))
theorem gX:FOk Tryz.prog 189 dX:=fk [(261,iV)] ⟨n9,trivial⟩ Tryz.func189 .no
theorem vD:FOk Tryz.prog 188 pb:=fk [(189,dX)] ⟨gX,trivial⟩ Tryz.func188 .no
theorem yg:FOk Tryz.prog 104 qD:=fk [(186,ga),(187,vr),(188,pb)] ⟨l5,Bv,vD,trivial⟩ Tryz.func104 .no
theorem Ct:FOk Tryz.prog 157 uC:=fk [(187,vr)] ⟨Bv,trivial⟩ Tryz.func157 .no
theorem wW:FOk Tryz.prog 207 ru:=fk [] trivial Tryz.func207 .no
theorem kN:FOk Tryz.prog 318 fC:=fk [(258,dK)] ⟨gu,trivial⟩ Tryz.func318 .no
theorem zm:FOk Tryz.prog 319 rK:=fk [(189,dX)] ⟨gX,trivial⟩ Tryz.func319 .no
theorem uM:FOk Tryz.prog 284 qa:=fk [(318,fC),(319,rK)] ⟨kN,zm,trivial⟩ Tryz.func284 .no
theorem Ip:FOk Tryz.prog 283 A4:=fk [(38,pK),(284,qa)] ⟨sY,uM,trivial⟩ Tryz.func283 .no
theorem Cu:FOk Tryz.prog 206 uD:=fk [(38,pK),(104,qD),(157,uC),(207,ru),(283,A4),(284,qa)] ⟨sY,yg,Ct,wW,Ip,uM,trivial⟩ Tryz.func206 .no
theorem zn:FOk Tryz.prog 117 rL:=fk [(38,pK),(206,uD),(207,ru)] ⟨sY,Cu,wW,trivial⟩ Tryz.func117 .no
theorem oc:FOk Tryz.prog 208 iW:=fk [] trivial Tryz.func208 (.t (.t (.two (.t (.loop [.s 13] .no)) .no)))
theorem Cv:FOk Tryz.prog 118 uE:=fk [(208,iW)] ⟨oc,trivial⟩ Tryz.func118 .no
theorem yh:FOk Tryz.prog 47 qF:=fk [(116,wN),(117,rL),(118,uE)] ⟨Ew,zn,Cv,trivial⟩ Tryz.func47 (.t (.t (.t (.t (.two (.t (.loop [.slot 11 (.own 65 y65),.s 13,.s 33] .no)) .no)))))
theorem Cw:FOk Tryz.prog 27 uF:=fk [] trivial Tryz.func27 (.t (.t (.two (.t (.loop [.s 5] .no)) .no)))
theorem sZ:FOk Tryz.prog 107 pL:=fk [(110,kD),(193,vp)] ⟨lY,Bl,trivial⟩ Tryz.func107 (.t (.two (.t (.loop [.s 3] .no)) .no))
end R
namespace R
open Go.RowKit
open D
theorem Cx:FOk Tryz.prog 165 uG:=fk [(150,xS)] ⟨Dj,trivial⟩ Tryz.func165 (.t (.t (.two (.t (.loop [.slot 5 (.own 65 y65),.s 6] .no)) (.two (.t (.loop [.slot 5 (.own 65 y65),.s 7] .no)) .no))))
theorem Iq:FOk Tryz.prog 285 A5:=fk [(107,pL),(149,tQ)] ⟨sZ,xX,trivial⟩ Tryz.func285 (.t (.two (.t (.loop [.s 3] .no)) .no))
theorem Cy:FOk Tryz.prog 211 uH:=fk [(80,mD),(107,pL),(149,tQ),(165,uG),(285,A5)] ⟨qI,sZ,xX,Cx,Iq,trivial⟩ Tryz.func211 (.t (.join [.slot 6 .boo] .no (.two (.t (.loop [.slot 6 .boo,.s 7] .no)) (.two (.t (.loop [.slot 6 .boo,.s 8] .no)) .no))))
theorem zo:FOk Tryz.prog 120 rM:=fk [(107,pL),(211,uH)] ⟨sZ,Cy,trivial⟩ Tryz.func120 .no
theorem yi:FOk Tryz.prog 48 qG:=fk [(26,nC),(27,uF),(119,vo),(120,rM)] ⟨rO,Cw,Bk,zo,trivial⟩ Tryz.func48 (.t (.t (.t (.t (.t (.two (.t (.loop [.slot 13 (.own 65 y65),.s 15,.s 16] .no)) .no))))))
theorem Bw:FOk Tryz.prog 49 sP:=fk [] trivial Tryz.func49 .no
theorem wX:FOk Tryz.prog 7 wO:=fk [(8,Oz),(46,nl),(47,qF),(48,qG),(49,sP)] ⟨VX,sS,yh,yi,Bw,trivial⟩ Tryz.func7 (.t (.t (.t (.t (.t (.t (.t (.t (.t (.t (.two (.at [.slot 11 .boo] .no) .no))))))))))) (an:=[(49,.fro y86)]) (tr:=[(3,0,.bool),(4,0,.bool),(5,0,.bool),(41,0,.bool),(47,0,.bool),(50,0,.bool),(65,0,.bool),(86,0,.bool),(95,0,.bool),(137,0,.bool),(156,0,.bool)])
end R
namespace D
open Go.RowKit
theorem wY (x0:List Int) (r:Bool) (hm:iR x0=some r) {I:Hp} {w0:World} (v0_0:Value) (r0_0:(aC 5 rU8).rd I [v0_0] x0) (hL:Lay Tryz.prog I):Con Tryz.prog 7 #[v0_0] I w0 [] (fun v=>v= .bool r) (fun _=>[]):=fun w C hs =>
 ((R.wX).con rfl w0 I undef [v0_0] (x0,()) r hL ⟨_,_,rfl,⟨[v0_0],rfl,r0_0⟩,rfl⟩ hm w C hs).mono fun e w' ⟨v,he,_,hst⟩=>by
  obtain ⟨h1,h2⟩:=R.vX (h1:=fun _=>rfl) (show St I w0 w' (Ch.own R.Ty.bool.rep [v] r::C) from hst)
  exact ⟨v,he,(List.cons.inj h1).1,h2⟩
end D
namespace D
open Go.RowKit
def I64 (n:Int):Prop:= -9223372036854775808<=n/\n<=9223372036854775807
class Data (α:Type) where
 lim:α->Prop
 sm:α->Prop
instance:Data Int:=⟨I64,fun _=>True⟩
instance:Data Bool:=⟨fun _=>True,fun _=>True⟩
instance:Data ByteArray:=⟨fun s=>s.size<=9223372036854775807,fun s=>s.size<=1048576⟩
instance {α β:Type} [Data α] [Data β] :Data (α×β):=⟨fun x=>Data.lim x.1/\Data.lim x.2,fun x=>Data.sm x.1/\Data.sm x.2⟩
instance {α:Type} [Data α] :Data (List α):=⟨fun xs=>xs.length<=9223372036854775807/\ ∀x,x∈xs->Data.lim x,fun xs=>xs.length<=1048576/\ ∀x,x∈xs->Data.sm x⟩
structure Opens (P:Program) (t:TypeId) {α:Type} [Data α] (R:Rep α):Prop where
 out: ∀ {H:Type} (enc:TypeId×Value->H) (w:World) (fuel:Nat) (cs:List Value) (x:DataW H×List MemPlace),DataW.trod enc P w 0 (fun _=>true) true fuel t cs=some x-> ∃a:α,R.rd (hp w) cs a/\Data.lim a
theorem RR {P:Program} {t:TypeId} (h:P.underlying t=some (.int .u8)):Opens P t rU8:=by
 constructor
 intro H enc w fuel cs x hx
 obtain ⟨n,rfl,-,hw⟩:=DataW.trod_int h hx
 refine ⟨n,rfl,show I64 n from ?_⟩
 simp[Lit.wf,IntKind.min,IntKind.max,IntKind.signed,IntKind.bits] at hw
 unfold I64
 omega
theorem Ir {P:Program} {t e:TypeId} {α:Type} [Data α] {R:Rep α} {E:TypeId} (h:P.underlying t=some (.slice e)) (hc:P.cellsOf e=R.size) (h0:0<R.size) (he:Opens P e R):Opens P t (aC E R):=by
 constructor
 intro H enc w fuel cs x hx
 rcases Go.Deep.open_slice h hx with ⟨rfl,-⟩ | ⟨a,len,cap,m,n,D,Pl,rfl,-,hl,hm,hmm,-,hel⟩
 ·exact ⟨[],⟨none,0,rfl,by simp,.inl rfl⟩,Nat.zero_le _,fun x hx=>by cases hx⟩
 have hlm:m=cap:=by simpa using hmm
 subst hlm
 rw[hc] at hel
 by_cases hz:len=0
 ·subst hz
  exact ⟨[],⟨some a,m,rfl,by simp,.inl rfl⟩,Nat.zero_le _,fun x hx=>by cases hx⟩
 ·have hone: ∀i,i<len-> ∃c:List Value,∃y:α,c.length=R.size/\(∀j,j<R.size->w.cell? ((a.add (i*R.size)).add j)=c[j]?)/\R.rd (hp w) c y/\Data.lim y:=by
   intro i hi
   obtain ⟨c,h1,h2⟩:=hel i (by omega)
   obtain ⟨-,h3,h4⟩:=World.cells?_some h1
   obtain ⟨y,hy⟩:=he.out enc w _ _ _ h2
   exact ⟨c,y,h3,h4,hy⟩
  obtain ⟨c0,y0,hc0,hr0,-⟩:=hone 0 (by omega)
  have h00:=hr0 0 h0
  have hsome: ∃v,c0[0]? =some v:=⟨_,List.getElem?_eq_getElem (by omega)⟩
  obtain ⟨v,hv⟩:=hsome
  rw[hv] at h00
  have ha:(a.add (0*R.size)).add 0=a:=by simp[Addr.add]
  rw[ha] at h00
  obtain ⟨b,off,spot⟩:=a
  have hb: ∃ccs T fr,w.heap[b]? =some (.cells ccs T fr)/\spot=none:=by
   simp only[World.cell?] at h00
   split at h00
   ·rename_i ccs T fr heq
    cases spot with
    | none=>exact ⟨ccs,T,fr,heq,rfl⟩
    | some s=>simp at h00
   ·simp at h00
  obtain ⟨ccs,T,fr,hh,rfl⟩:=hb
  have hadd: ∀i j,(Addr.add ⟨b,off,none⟩ i).add j=⟨b,off+i+j,none⟩:=by
   intro i j
   by_cases h1:i=0 <;> by_cases h2:j=0 <;> simp[Addr.add,h1,h2,Nat.add_assoc]
  haveI:Inhabited α:=⟨y0⟩
  obtain ⟨X,hX⟩:=Go.Deep.choose_lt (α:=α) (n:=len) (p:=fun i y=> ∃c:List Value,c.length=R.size/\(∀j,j<R.size->ccs.toList[off+i*R.size+j]? =c[j]?)/\R.rd (hp w) c y/\Data.lim y) (fun i hi=>by
   obtain ⟨c,y,h1,h2,h3⟩:=hone i hi
   refine ⟨y,c,h1,fun j hj=>?_,h3⟩
   have:=h2 j hj
   rw[hadd] at this
   simp only[World.cell?,hh] at this
   simpa using this)
  have hlen:((List.range len).map X).length=len:=by simp
  have hel2: ∀i y,((List.range len).map X)[i]? =some y->i<len/\y=X i:=fun i y hy=>by
   have hi:i<len:=by have:=(List.getElem?_eq_some_iff.1 hy).1;omega
   exact ⟨hi,by simpa [hi] using hy.symm⟩
  refine ⟨(List.range len).map X,⟨some ⟨b,off,none⟩,m,by rw[hlen],by rw[hlen];unfold maxLen at hm;unfold lim;omega,.inr ⟨b,off,ccs,T,fr,rfl,hh,fun i y hy=>?_⟩⟩,by rw[hlen];unfold maxLen at hm;omega,fun y hy=>?_⟩
  ·obtain ⟨hi,rfl⟩:=hel2 i y hy
   obtain ⟨c,e1,e2,e3,-⟩:=hX i hi
   exact ⟨c,e1,e2,e3⟩
  ·obtain ⟨i,hi,he⟩:=List.mem_iff_getElem?.1 hy |>.imp fun i hi=>hel2 i y hi
   obtain ⟨-,-,-,-,e4⟩:=hX i hi
   rw[he];exact e4
theorem St.below {w0 w:World} {cs:List Ch} (h:St (hp w0) w0 w cs):Below w0.heap.size w0 w:=by
 obtain ⟨⟨h1,h2,h3,h4⟩,h5,-⟩:=h
 refine ⟨h1,h2,h3,h4,fun b hb=>?_⟩
 have e:w0.heap[b]? =some w0.heap[b]:=Array.getElem?_eq_getElem hb
 rw[e];exact h5 b _ e
end D
namespace D
open Go.RowKit
theorem bH {n:Int} (h1: -9223372036854775808<=n) (h2:n<=9223372036854775807):i64.wrap n=n:=by
 simp only[IntKind.wrap,IntKind.bits,IntKind.signed,Bool.true_and]
 split <;> rename_i h <;> simp at h <;> omega
theorem ah {i:Nat} (h:i<9223372036854775807):i64.wrap ((i:Int)+1)=((i+1:Nat):Int):=by
 rw[bH (by omega) (by omega)];rfl
theorem aM {α:Type} {xs:List α} {i:Nat} (h:i<xs.length):aQ xs (i:Int)=some (xs[i]):=by
 unfold aQ
 rw[if_pos (Int.natCast_nonneg _)]
 simp[h]
theorem cF {i n:Nat} (h:i<n):decide ((i:Int)<(n:Int))=true:=by simp[h]
theorem cm {n:Nat} :decide ((n:Int)<(n:Int))=false:=by simp
theorem gx (k:Nat) (h:k<=9223372036854775807):k<aT:=by unfold aT;omega
theorem X4 {α:Type} {b n:Nat} {z:α} (h:n*b<=140737488355328):mkI b (n:Int) z=some (List.replicate n z):=by
 unfold mkI
 rw[if_pos ⟨Int.natCast_nonneg _,by simpa using h⟩];simp
theorem GI {R S:Type} {f:S->Option (Out R S)} (inv:Nat->S) (N:Nat) (h: ∀i,i<N->f (inv i)=some (.nxt (inv (i+1)))): ∀(m i k:Nat),i+m=N->aA f (k+m) (inv i)=aA f k (inv N)
 | 0,i,k,e=>by rw[show i=N by omega];rfl
 | m+1,i,k,e=>by
  rw[<-Nat.add_assoc,aA,h i (by omega)]
  exact GI inv N h m (i+1) k (by omega)
theorem OK {R S:Type} {f:S->Option (Out R S)} (inv:Nat->S) (N:Nat) {s:S} (h: ∀i,i<N->f (inv i)=some (.nxt (inv (i+1)))) (he:f (inv N)=some (.brk s)) (hN:N<aT):aA f aT (inv 0)=some (.brk s):=by
 have e:aT=(aT - N - 1)+1+N:=by omega
 rw[e,GI inv N h N 0 _ (by omega),aA,he]
theorem aaG {α:Type} [Data α] {f:Int×Int->Option L6 } (xs:List α)
  (hstep: ∀i (h:i<xs.length) l,0<=l->l<=1048576-> ∃r,f (l,(i:Int))=some (if r<0 then .ret (-1) else .nxt (r,((i+1:Nat):Int)))/\(r<0\/(0<=r/\r<=l/\Data.sm xs[i])))
  (hend: ∀l,f (l,(xs.length:Int))=some (.brk (l,(xs.length:Int)))): ∀(m i k:Nat) (l:Int),i+m=xs.length->m<k->0<=l->l<=1048576->
   aA f k (l,(i:Int))=some (.ret (-1))\/ ∃r,aA f k (l,(i:Int))=some (.brk (r,(xs.length:Int)))/\0<=r/\r<=l/\ ∀j (h:j<xs.length),i<=j->Data.sm xs[j]
 | 0,i,k,l,e,hk,h0,h1=>by
  obtain ⟨k,rfl⟩: ∃q,k=q+1:=⟨k - 1,by omega⟩
  obtain rfl:i=xs.length:=by omega
  exact .inr ⟨l,by rw[aA,hend],h0,Int.le_refl _,fun j hj hi=>by omega⟩
 | m+1,i,k,l,e,hk,h0,h1=>by
  obtain ⟨k,rfl⟩: ∃q,k=q+1:=⟨k - 1,by omega⟩
  obtain ⟨r,e1,e2⟩:=hstep i (by omega) l h0 h1
  rw[aA,e1]
  rcases e2 with e2 | ⟨e2,e3,e4⟩
  ·rw[if_pos e2];exact .inl rfl
  ·rw[if_neg (by omega)]
   rcases aaG xs hstep hend m (i+1) k r (by omega) (by omega) e2 (by omega) with h | ⟨q,g1,g2,g3,g4⟩
   ·exact .inl h
   ·refine .inr ⟨q,g1,g2,by omega,fun j hj hi=>?_⟩
    by_cases hji:j=i
    ·subst hji;exact e4
    ·exact g4 j hj (by omega)
theorem szL {α:Type} [Data α] {f:Int×Int->Option L6 } (xs:List α) {l:Int} (hN:xs.length<=9223372036854775807)
  (hstep: ∀i (h:i<xs.length) l,0<=l->l<=1048576-> ∃r,f (l,(i:Int))=some (if r<0 then .ret (-1) else .nxt (r,((i+1:Nat):Int)))/\(r<0\/(0<=r/\r<=l/\Data.sm xs[i])))
  (hend: ∀l,f (l,(xs.length:Int))=some (.brk (l,(xs.length:Int)))) (h0:0<=l) (h1:l<=1048576) :
  ∃r,(if decide (i64.wrap (l - (xs.length:Int))<0) then (some (-1)) else (aO (aA f aT (i64.wrap (l - (xs.length:Int)),0)) (fun r=>some r) (fun s4=>some s4.1)))=some r/\(r<0\/(0<=r/\r<=l/\Data.sm xs)):=by
 rw[bH (by omega) (by omega)]
 by_cases h:l - (xs.length:Int)<0
 ·exact ⟨-1,by rw[if_pos (decide_eq_true h)],.inl (by decide)⟩
 ·rw[if_neg (by simpa using h)]
  rcases aaG xs hstep hend xs.length 0 aT (l - xs.length) (by omega) (gx _ hN) (by omega) (by omega) with e | ⟨r,e,g1,g2,g3⟩
  ·exact ⟨-1,by rw[show ((0:Int))=((0:Nat):Int) from rfl,e];rfl,.inl (by decide)⟩
  ·refine ⟨r,by rw[show ((0:Int))=((0:Nat):Int) from rfl,e];rfl,.inr ⟨g1,by omega,by omega,fun x hx=>?_⟩⟩
   obtain ⟨j,hj,rfl⟩:=List.getElem_of_mem hx
   exact g3 j hj (Nat.zero_le _)
theorem ZP {α:Type} [DecidableEq α] {f:Int->Option (Out Bool Int)} (xs ys:List α) (hl:xs.length=ys.length)
  (hstep: ∀i (h:i<xs.length) (h':i<ys.length),f (i:Int)=some (if xs[i] =ys[i] then .nxt ((i+1:Nat):Int) else .ret false)) (hend:f (xs.length:Int)=some (.brk (xs.length:Int))): ∀(m i k:Nat),i+m=xs.length->m<k->
   aA f k (i:Int)=some (if xs.drop i=ys.drop i then .brk (xs.length:Int) else .ret false)
 | 0,i,k,e,hk=>by
  obtain ⟨k,rfl⟩: ∃q,k=q+1:=⟨k - 1,by omega⟩
  obtain rfl:i=xs.length:=by omega
  rw[aA,hend,List.drop_of_length_le (aG _),List.drop_of_length_le (by omega),if_pos rfl]
 | m+1,i,k,e,hk=>by
  obtain ⟨k,rfl⟩: ∃q,k=q+1:=⟨k - 1,by omega⟩
  have hi:i<xs.length:=by omega
  have hi':i<ys.length:=by omega
  have d1:=List.drop_eq_getElem_cons hi
  have d2:=List.drop_eq_getElem_cons hi'
  rw[aA,hstep i hi hi',d1,d2]
  by_cases h:xs[i] =ys[i]
  ·rw[if_pos h]
   simp only
   rw[ZP xs ys hl hstep hend m (i+1) k (by omega) (by omega)]
   simp only[List.cons.injEq,h,true_and]
  ·rw[if_neg h]
   simp only[List.cons.injEq,h,false_and,if_false]
theorem eqL {α:Type} [DecidableEq α] {f:Int->Option (Out Bool Int)} (xs ys:List α) (hN:xs.length<=9223372036854775807)
  (hstep: ∀i (h:i<xs.length) (h':i<ys.length),f (i:Int)=some (if xs[i] =ys[i] then .nxt ((i+1:Nat):Int) else .ret false)) (hend:f (xs.length:Int)=some (.brk (xs.length:Int))) :
  (if (xs.length:Int) !=(ys.length:Int) then (some false) else (aO (aA f aT 0) (fun r=>some r) (fun s4=>some true)))=some (decide (xs=ys)):=by
 by_cases hl:xs.length=ys.length
 ·rw[if_neg (by rw[hl];simp),show ((0:Int))=((0:Nat):Int) from rfl,ZP xs ys hl hstep hend xs.length 0 aT (by omega) (gx _ hN)]
  by_cases h:xs=ys
  ·subst h;simp[aO]
  ·simp[aO,h]
 ·have:xs≠ys:=fun e=>hl (by rw[e])
  rw[if_pos (by simp;omega)];simp[this]
theorem GJ {α:Type} {c d:Prop} [Decidable c] [Decidable d] {a b:α} (h:c↔d):(if c then some a else some b)=some (if d then a else b):=by
 by_cases k:c
 ·rw[if_pos k,if_pos (h.1 k)]
 ·rw[if_neg k,if_neg (fun e=>k (h.2 e))]
theorem eqB {α:Type} [DecidableEq α] {f:Int->Option (Out Bool Int)} {K:Option Bool} (xs ys:List α) (hN:xs.length<=9223372036854775807) (hl:xs.length=ys.length)
  (hstep: ∀i (h:i<xs.length) (h':i<ys.length),f (i:Int)=some (if xs[i] =ys[i] then .nxt ((i+1:Nat):Int) else .ret false)) (hend:f (xs.length:Int)=some (.brk (xs.length:Int))) :
  aO (aA f aT 0) (fun r=>some r) (fun s4=>K)=(if xs=ys then K else some false):=by
 rw[show ((0:Int))=((0:Nat):Int) from rfl,ZP xs ys hl hstep hend xs.length 0 aT (by omega) (gx _ hN)]
 by_cases h:xs=ys
 ·subst h;simp[aO]
 ·simp[aO,h]
theorem X5 {f:Int->Option (Out Int Int)} (xs ys:List Int)
  (hstep: ∀i (h:i<xs.length) (h':i<ys.length),f (i:Int)=some (if xs[i] < ys[i] then .ret (-1) else if xs[i] > ys[i] then .ret 1 else .nxt ((i+1:Nat):Int))) (hend: ∀i,xs.length<=i\/ys.length<=i->f (i:Int)=some (.brk (i:Int))): ∀(m i k:Nat),i+m=xs.length->m<k->
   (∃r,aA f k (i:Int)=some (.ret r)/\r≠0/\xs≠ys)\/ ∃s,aA f k (i:Int)=some (.brk s)/\(xs.length=ys.length->xs.drop i=ys.drop i)
 | 0,i,k,e,hk=>by
  obtain ⟨k,rfl⟩: ∃q,k=q+1:=⟨k - 1,by omega⟩
  exact .inr ⟨_,by rw[aA,hend i (.inl (by omega))],fun h=>by rw[List.drop_of_length_le (by omega),List.drop_of_length_le (by omega)]⟩
 | m+1,i,k,e,hk=>by
  obtain ⟨k,rfl⟩: ∃q,k=q+1:=⟨k - 1,by omega⟩
  have hi:i<xs.length:=by omega
  by_cases hi':i<ys.length
  ·have hne: ∀h:xs[i] ≠ys[i],xs≠ys:=fun h e=>h (by subst e;rfl)
   rw[aA,hstep i hi hi']
   by_cases h1:xs[i] < ys[i]
   ·rw[if_pos h1];exact .inl ⟨-1,rfl,by decide,hne (by omega)⟩
   ·rw[if_neg h1]
    by_cases h2:xs[i] > ys[i]
    ·rw[if_pos h2];exact .inl ⟨1,rfl,by decide,hne (by omega)⟩
    ·rw[if_neg h2]
     rcases X5 xs ys hstep hend m (i+1) k (by omega) (by omega) with h | ⟨s,g1,g2⟩
     ·exact .inl h
     ·refine .inr ⟨s,g1,fun hl=>?_⟩
      have h3:xs[i] =ys[i]:=by omega
      rw[List.drop_eq_getElem_cons hi,List.drop_eq_getElem_cons hi',g2 hl,h3]
  ·exact .inr ⟨_,by rw[aA,hend i (.inr (by omega))],fun h=>by omega⟩
instance:LawfulBEq ByteArray where
 eq_of_beq {a b} h:=ByteArray.ext (eq_of_beq (show (a.data==b.data)=true from h))
 rfl {a}:=beq_self_eq_true a.data
theorem aaH {α β γ δ:Type} {a b:α×β×γ×δ} :(a.1=b.1/\a.2.1=b.2.1/\a.2.2.1=b.2.2.1/\a.2.2.2=b.2.2.2)↔a=b:=by rw[Prod.ext_iff,Prod.ext_iff,Prod.ext_iff]
theorem iN {α β:Type} (p:α×β):(p.1,p.2)=p:=rfl
theorem bf {α:Type} [Data α] {xs:List α} (h:Data.sm xs):xs.length<=1048576/\ ∀x,x∈xs->Data.sm x:=h
end D
namespace D
open Go.RowKit
theorem cz {R S:Type} {f:S->Option (Out R S)} (Inv:Nat->S->Prop) (Q:Out R S->Prop) (N:Nat)
  (h: ∀i s,i<=N->Inv i s->(i<N/\ ∃s',f s=some (.nxt s')/\Inv (i+1) s')\/ ∃o,f s=some o/\(∀s',o≠ .nxt s')/\Q o) {s:S} (h0:Inv 0 s) (hN:N<aT): ∃o,aA f aT s=some o/\Q o:=by
 have key: ∀(k i:Nat) (s:S),i<=N->N<i+k->Inv i s-> ∃o,aA f k s=some o/\Q o:=by
  intro k
  induction k with
  | zero=>intro i s h1 h2;omega
  | succ k ih =>
   intro i s h1 h2 hI
   rcases h i s h1 hI with ⟨hi,s',e,hI'⟩ | ⟨o,e,hn,hq⟩
   ·obtain ⟨o,e',hq⟩:=ih (i+1) s' (by omega) (by omega) hI'
    exact ⟨o,by rw[aA,e];exact e',hq⟩
   ·refine ⟨o,?_,hq⟩
    rw[aA,e]
    cases o with
    | nxt s'=>exact absurd rfl (hn s')
    | brk s'=>rfl
    | ret r=>rfl
 exact key aT 0 s (by omega) (by omega) h0
theorem dO {R S:Type} {f:S->Option (Out R S)} (Inv:Nat->S->Prop) (N:Nat) (h: ∀i s,i<N->Inv i s-> ∃s',f s=some (.nxt s')/\Inv (i+1) s') (he: ∀s,Inv N s->f s=some (.brk s)) {s:S} (h0:Inv 0 s) (hN:N<aT): ∃s',aA f aT s=some (.brk s')/\Inv N s':=by
 obtain ⟨o,e,s',rfl,h⟩:=cz (f:=f) Inv (fun o=> ∃s',o= .brk s'/\Inv N s') N (fun i s hi hI=>by
  by_cases h1:i<N
  ·exact .inl ⟨h1,h i s h1 hI⟩
  ·obtain rfl:i=N:=by omega
   exact .inr ⟨_,he s hI,(fun s' e=>by cases e),s,rfl,hI⟩) h0 hN
 exact ⟨s',e,h⟩
theorem aU {R S:Type} {f:S->Option (Out R S)} (st:Nat->S) (N:Nat) (h: ∀i,i<N->f (st i)=some (.nxt (st (i+1)))) (he:f (st N)=some (.brk (st N))) (hN:N<aT):aA f aT (st 0)=some (.brk (st N)):=OK st N h he hN
theorem lu {k:Nat} (h:k<=9223372036854775807):k<aT:=gx k h
theorem wZ {i:Nat} (h:i<=9223372036854775807):i64.wrap (i:Int)=(i:Int):=bH (by omega) (by omega)
theorem nt {i:Nat} (h:i<=9223372036854775807):i64.wrap ((i:Int) - 1)=(i:Int) - 1:=bH (by omega) (by omega)
theorem aH {α:Type} {b:Nat} {xs ys:List α} (h:(xs.length+ys.length)*b<=140737488355328):bM b xs ys=some (xs++ys):=by unfold bM;rw[if_pos h]
theorem VY {i n:Nat} :decide ((i:Int)<(n:Int))=decide (i<n):=by simp
theorem bs {R S T:Type} {x:Option (Out R S)} {r:R} {kr:R->Option T} {k:S->Option T} (h:x=some (.ret r)):aO x kr k=kr r:=by rw[h];rfl
theorem ai {R S T:Type} {x:Option (Out R S)} {s:S} {kr:R->Option T} {k:S->Option T} (h:x=some (.brk s)):aO x kr k=k s:=by rw[h];rfl
def nth {α:Type} [Inhabited α] (xs:List α) (i:Int):α:=xs.getD i.toNat default
section
variable {α:Type} [Inhabited α] {xs ys:List α}
theorem az {i:Int} (h0:0<=i) (h1:i<xs.length):aQ xs i=some (nth xs i):=by
 unfold aQ nth
 rw[if_pos h0]
 have:i.toNat<xs.length:=by omega
 simp[List.getD_eq_getElem?_getD,this]
theorem cw {i:Nat} (h:i<xs.length):nth xs (i:Int)=xs[i]:=by simp[nth,List.getD_eq_getElem?_getD,h]
theorem bI {i:Int} (h0:0<=i) (h1:i<xs.length):nth xs i∈xs:=by
 have:i.toNat<xs.length:=by omega
 have e:nth xs i=xs[i.toNat]:=by simp[nth,List.getD_eq_getElem?_getD,this]
 rw[e];exact List.getElem_mem this
theorem pd {i:Int} (h0:0<=i) (h1:i<xs.length):nth (xs++ys) i=nth xs i:=by
 have:i.toNat<xs.length:=by omega
 simp[nth,List.getD_eq_getElem?_getD,List.getElem?_append_left this]
theorem VZ {β:Type} [Inhabited β] {f:α->β} {i:Int} (h0:0<=i) (h1:i<xs.length):nth (xs.map f) i=f (nth xs i):=by
 have:i.toNat<xs.length:=by omega
 simp[nth,List.getD_eq_getElem?_getD,this]
theorem Bx {x:α} (h:x∈xs): ∃i:Nat,i<xs.length/\nth xs (i:Int)=x:=by
 obtain ⟨i,hi,rfl⟩:=List.getElem_of_mem h
 exact ⟨i,hi,cw hi⟩
theorem pO {i:Int} {x:α} (h0:0<=i) (h1:i<xs.length):nth (xs.set i.toNat x) i=x:=by
 have:i.toNat<xs.length:=by omega
 simp[nth,List.getD_eq_getElem?_getD,this]
theorem tS {i j:Int} {x:α} (h0:0<=i) (hj:0<=j) (h:i≠j):nth (xs.set i.toNat x) j=nth xs j:=by
 have:i.toNat≠j.toNat:=by omega
 simp[nth,List.getD_eq_getElem?_getD,List.getElem?_set_ne this]
theorem V0 (h:xs.length=ys.length) (k: ∀i:Nat,i<xs.length->nth xs (i:Int)=nth ys (i:Int)):xs=ys:=by
 refine List.ext_getElem h fun i h1 h2=>?_
 have:=k i h1
 rwa [cw h1,cw h2] at this
end
section
variable {κ:Type} [DecidableEq κ]
def nbL (l:List κ):Option κ->List κ
 | none=>l
 | some x=>if x∈l then l else l++ [x]
def nbI (l:List κ):Option κ->Int
 | none=> -1
 | some x=>(l.idxOf x:Int)
def nbS (l:List κ) (os:List (Option κ)):List κ:=os.foldl nbL l
def nbR (l:List κ):List (Option κ)->List Int
 | [] =>[]
 | o::os=>nbI l o::nbR (nbL l o) os
theorem w7 (l:List κ) (os:List (Option κ)) (o:Option κ):nbS l (os++ [o])=nbL (nbS l os) o:=by simp[nbS]
theorem tT: ∀(l:List κ) (os:List (Option κ)) (o:Option κ),nbR l (os++ [o])=nbR l os++ [nbI (nbS l os) o]
 | l,[],o=>rfl
 | l,p::os,o=>by
  show nbI l p::nbR (nbL l p) (os++ [o])=nbI l p::nbR (nbL l p) os++ [nbI (nbS (nbL l p) os) o]
  rw[tT (nbL l p) os o];rfl
theorem fU: ∀(l:List κ) (os:List (Option κ)),(nbR l os).length=os.length
 | l,[] =>rfl
 | l,o::os=>by show (nbR (nbL l o) os).length+1=_;rw[fU];rfl
theorem LG (l : List κ) (o : Option κ) : l <+: nbL l o := by
  cases o with
  | none => exact List.prefix_refl l
  | some x => unfold nbL; simp only; split
              · exact List.prefix_refl l
              · exact List.prefix_append l [x]
theorem mG: ∀(l:List κ) (os:List (Option κ)),l <+:nbS l os
 | l,[] =>List.prefix_refl l
 | l,o::os=>(LG l o).trans (mG (nbL l o) os)
theorem OL {l : List κ} {o : Option κ} (h : l.Nodup) : (nbL l o).Nodup := by
  cases o with
  | none => exact h
  | some x => unfold nbL; simp only; split
              · exact h
              · rename_i hx; exact List.nodup_append.2 ⟨h, by simp, by rintro a ha b hb rfl; simp at hb; exact hx (hb ▸ ha)⟩
theorem ta: ∀ {l:List κ} {os:List (Option κ)},l.Nodup->(nbS l os).Nodup
 | l,[],h=>h
 | l,o::os,h=>ta (l:=nbL l o) (os:=os) (OL h)
theorem OM {l : List κ} {o : Option κ} {x : κ} : x ∈ nbL l o ↔ x ∈ l \/ o = some x := by
  cases o with
  | none => simp [nbL]
  | some y => unfold nbL; simp only; split
              · rename_i h; constructor
                · exact .inl
                · rintro (h' | h')
                  · exact h'
                  · simp at h'; exact h' ▸ h
              · simp; exact or_congr Iff.rfl eq_comm
theorem yj: ∀ {l:List κ} {os:List (Option κ)} {x:κ},x∈nbS l os↔x∈l\/some x∈os
 | l,[],x=>by simp[nbS]
 | l,o::os,x=>by
  show x∈nbS (nbL l o) os↔_
  rw[yj,OM,List.mem_cons,or_assoc]
  exact or_congr Iff.rfl (or_congr eq_comm Iff.rfl)
theorem nH {l:List κ} {x:κ} (h:x∈l):nbL l (some x)=l:=by simp[nbL,h]
theorem mH {l:List κ} {x:κ} (h:x∉l):nbL l (some x)=l++ [x]:=by simp[nbL,h]
theorem qN {l:List κ} {x:κ} (h:x∉l):l.idxOf x=l.length:=List.idxOf_eq_length h
def bfS (nx:κ->List (Option κ)) (first:κ):Nat->List κ
 | 0=>[first]
 | i+1=>match (bfS nx first i)[i]? with
  | some x=>nbS (bfS nx first i) (nx x)
  | none=>bfS nx first i
def bfR (nx:κ->List (Option κ)) (first:κ):Nat->List (List Int)
 | 0=>[]
 | i+1=>bfR nx first i++(match (bfS nx first i)[i]? with
  | some x=>[nbR (bfS nx first i) (nx x)]
  | none=>[])
variable {nx:κ->List (Option κ)} {first:κ}
theorem Ex {i:Nat} (h:i<(bfS nx first i).length):bfS nx first (i+1)=nbS (bfS nx first i) (nx ((bfS nx first i)[i])):=by
 rw[bfS,List.getElem?_eq_getElem h]
theorem w8 {i:Nat} (h:i<(bfS nx first i).length):bfR nx first (i+1)=bfR nx first i++ [nbR (bfS nx first i) (nx ((bfS nx first i)[i]))]:=by
 rw[bfR,List.getElem?_eq_getElem h]
theorem b9 (i:Nat):bfS nx first i <+:bfS nx first (i+1):=by
 rw[bfS]
 split
 ·exact mG _ _
 ·exact List.prefix_refl _
theorem yk {i j:Nat} (h:i<=j):bfS nx first i <+:bfS nx first j:=by
 induction h with
 | refl=>exact List.prefix_refl _
 | step _ ih=>exact ih.trans (b9 _)
theorem pe: ∀i,(bfS nx first i).Nodup
 | 0=>by simp[bfS]
 | i+1=>by
  rw[bfS]
  split
  ·exact ta (pe i)
  ·exact pe i
theorem l6 {G:κ->Prop} (h0:G first) (h: ∀x,G x-> ∀y,some y∈nx x->G y): ∀i,∀x∈bfS nx first i,G x
 | 0=>by simp[bfS];exact h0
 | i+1=>by
  rw[bfS]
  split
  ·rename_i y hy
   intro x hx
   rcases yj.1 hx with hx | hx
   ·exact l6 h0 h i x hx
   ·exact h y (l6 h0 h i y (List.mem_of_getElem? hy)) x hx
  ·exact l6 h0 h i
theorem GK (i:Nat):(bfS nx first i)[0]? =some first:=by
 obtain ⟨t,ht⟩:=yk (nx:=nx) (first:=first) (Nat.zero_le i)
 rw[<-ht];rfl
theorem lf: ∀ {i:Nat},(∀j,j<i->j<(bfS nx first j).length)->(bfR nx first i).length=i
 | 0,_=>rfl
 | i+1,h=>by rw[w8 (h i (by omega)),aj,lf fun j hj=>h j (by omega)];rfl
def bfE (nx:κ->List (Option κ)) (first:κ) (N:Nat):Prop:=N=(bfS nx first N).length/\ ∀i,i<N->i<(bfS nx first i).length
theorem Tu {B:Nat} (hB: ∀i,(bfS nx first i).length<=B): ∃N,N<=B/\bfE nx first N:=by
 have key: ∀m i,i+m=B->(∀j,j<i->j<(bfS nx first j).length)-> ∃N,N<=B/\bfE nx first N:=by
  intro m
  induction m with
  | zero =>
   intro i hi hj
   have h1:=hB i
   have h2:i<=(bfS nx first i).length:=by
    cases i with
    | zero=>omega
    | succ i =>
     have:=hj i (by omega)
     have hp:=(b9 (nx:=nx) (first:=first) i).length_le
     omega
   exact ⟨i,by omega,by omega,hj⟩
  | succ m ih =>
   intro i hi hj
   by_cases h:i<(bfS nx first i).length
   ·exact ih (i+1) (by omega) fun j hj'=>by
     by_cases e:j=i
     ·subst e;exact h
     ·exact hj j (by omega)
   ·have h2:i<=(bfS nx first i).length:=by
     cases i with
     | zero=>omega
     | succ i =>
      have:=hj i (by omega)
      have hp:=(b9 (nx:=nx) (first:=first) i).length_le
      omega
    exact ⟨i,by omega,by omega,hj⟩
 exact key B 0 (by omega) (by omega)
theorem RS {N M:Nat} (h:bfE nx first N) (k:bfE nx first M):N=M:=by
 rcases Nat.lt_trichotomy N M with e | e | e
 ·have:=k.2 N e;have:=h.1;omega
 ·exact e
 ·have:=h.2 M e;have:=k.1;omega
end
end D
namespace D
open Go.RowKit
abbrev AutT:=Int×(List Bool)×(List (List Int))
structure VA (a:AutT) (n:Nat):Prop where
 len:a.2.1.length=n
 start:0<=a.1/\a.1<n
 nlen:a.2.2.length=n
 row: ∀r∈a.2.2,r.length=9
 ent: ∀r∈a.2.2,∀t∈r,-1<=t/\t<n
def mv (a:AutT) (s:Int) (k:Nat):Int:=nth (nth a.2.2 s) k
theorem Is (x l h:Int):dq x l h=some (decide (l<=x/\x<=h)):=by
 unfold dq
 by_cases c:l<=x
 ·simp[c]
 ·have: ¬l<=x/\True:=⟨c,trivial⟩
  simp[c]
theorem Ey (x l h:Int):bS x l h=some (decide (l<=x/\x<=h)):=by
 unfold bS
 by_cases c:l<=x
 ·simp[c]
 ·simp[c]
theorem scan {α R:Type} [Inhabited α] {f:Int->Option (Out R Int)} (xs:List α) (p:α->Prop) [DecidablePred p] (r:R) (hN:xs.length<=9223372036854775807)
  (h: ∀i:Nat,i<xs.length->f (i:Int)=some (if p (nth xs i) then .nxt ((i+1:Nat):Int) else .ret r)) (he:f (xs.length:Int)=some (.brk (xs.length:Int))) :
  (aA f aT 0=some (.brk (xs.length:Int))/\ ∀x∈xs,p x)\/(aA f aT 0=some (.ret r)/\ ¬ ∀x∈xs,p x):=by
 obtain ⟨o,e,hq⟩:=cz (f:=f) (fun i s=>s=(i:Int)/\ ∀j:Nat,j<i->p (nth xs j)) (fun o=>(o= .brk (xs.length:Int)/\ ∀x∈xs,p x)\/(o= .ret r/\ ¬ ∀x∈xs,p x)) xs.length (s:=0) (by
  rintro i s hi ⟨rfl,hp⟩
  by_cases hl:i<xs.length
  ·by_cases c:p (nth xs i)
   ·refine .inl ⟨hl,_,by rw[h i hl,if_pos c],rfl,fun j hj=>?_⟩
    by_cases e:j=i
    ·subst e;exact c
    ·exact hp j (by omega)
   ·refine .inr ⟨_,by rw[h i hl,if_neg c],(fun s' e=>by cases e),.inr ⟨rfl,fun hx=>c (hx _ (bI (by omega) (by omega)))⟩⟩
  ·obtain rfl:i=xs.length:=by omega
   refine .inr ⟨_,he,(fun s' e=>by cases e),.inl ⟨rfl,fun x hx=>?_⟩⟩
   obtain ⟨j,hj,rfl⟩:=Bx hx
   exact hp j hj) ⟨rfl,by omega⟩ (lu hN)
 rcases hq with ⟨rfl,hq⟩ | ⟨rfl,hq⟩
 ·exact .inl ⟨e,hq⟩
 ·exact .inr ⟨e,hq⟩
section
variable {a:AutT} {n:Nat} (V:VA a n)
include V
theorem VA.pos:0<n:=by have:=V.start;omega
theorem VA.rowAt {s:Int} (h0:0<=s) (h1:s<n):(nth a.2.2 s).length=9:=V.row _ (bI h0 (by rw[V.nlen];exact h1))
theorem VA.mv {s:Int} {k:Nat} (h0:0<=s) (h1:s<n) (hk:k<9): -1<=mv a s k/\mv a s k<n:=
 V.ent _ (bI h0 (by rw[V.nlen];exact h1)) _ (bI (by omega) (by rw[V.rowAt h0 h1];omega))
theorem VA.get {s:Int} (h0:0<=s) (h1:s<n):aQ a.2.2 s=some (nth a.2.2 s):=az h0 (by rw[V.nlen];exact h1)
theorem VA.get2 {s:Int} {k:Nat} (h0:0<=s) (h1:s<n) (hk:k<9):aQ (nth a.2.2 s) (k:Int)=some (D.mv a s k):=az (by omega) (by rw[V.rowAt h0 h1];omega)
theorem VA.acc {s:Int} (h0:0<=s) (h1:s<n):aQ a.2.1 s=some (nth a.2.1 s):=az h0 (by rw[V.len];exact h1)
theorem GL {s:Int} {k:Nat} (h0:0<=s) (h1:s<n) (hk:k<9):bP a s (k:Int)=some (mv a s k):=by
 unfold bP kU
 rw[if_neg (by simp;omega),Ey];simp only[ae]
 rw[if_pos (by simp;omega),V.get h0 h1];simp only[ae]
 rw[V.get2 h0 h1 hk];rfl
end
end D
namespace D
open Go.RowKit
abbrev Tok:=Int×Int×Int×Int
def ar (t:Tok):Int:=
 if t.1=1\/t.1=2 then (if t.2.1=0/\t.2.2.1=0/\t.2.2.2=0 then 0 else -1)
 else if t.1=3 then (if (0<=t.2.1/\t.2.1<=8)/\t.2.2.1=0/\t.2.2.2=0 then 0 else -1)
 else if t.1=4\/t.1=5 then (if t.2.1=0/\t.2.2.1=0/\t.2.2.2=0 then 2 else -1)
 else if t.1=6 then (if t.2.1=0/\t.2.2.1=0/\t.2.2.2=0 then 1 else -1)
 else if t.1=7 then (if t.2.1=0/\(0<=t.2.2.1/\t.2.2.1<=t.2.2.2)/\(1<=t.2.2.2/\t.2.2.2<=3) then 1 else -1)
 else -1
theorem RT (x:Int):na x=some (decide (0<=x/\x<=8)):=by unfold na;rw[Is];rfl
theorem RU (x:Int):kU x=some (decide (0<=x/\x<=8)):=by unfold kU;rw[Ey];rfl
theorem aaI (t:Tok):oH t=some (ar t):=by
 obtain ⟨k,l,lo,hi⟩:=t
 unfold oH ar
 simp only[RT,Is,ae]
 by_cases h1:k=1
 ·subst h1;simp;grind
 by_cases h2:k=2
 ·subst h2;simp;grind
 by_cases h3:k=3
 ·subst h3;simp;grind
 by_cases h4:k=4
 ·subst h4;simp;grind
 by_cases h5:k=5
 ·subst h5;simp;grind
 by_cases h6:k=6
 ·subst h6;simp;grind
 by_cases h7:k=7
 ·subst h7;simp;grind
 simp[h1,h2,h3,h4,h5,h6,h7]
theorem X6 (t:Tok):rf t=some (decide (0<=ar t)):=by
 obtain ⟨k,l,lo,hi⟩:=t
 unfold rf ar
 simp only[RU,Ey,ae]
 by_cases h1:k=1
 ·subst h1;simp;grind
 by_cases h2:k=2
 ·subst h2;simp;grind
 by_cases h3:k=3
 ·subst h3;simp only[]
  by_cases a:0<=l/\l<=8 <;> by_cases b:lo=0 <;> by_cases c:hi=0 <;> simp[a,b,c]
 by_cases h4:k=4
 ·subst h4;simp;grind
 by_cases h5:k=5
 ·subst h5;simp;grind
 by_cases h6:k=6
 ·subst h6;simp;grind
 by_cases h7:k=7
 ·subst h7;simp only[]
  by_cases a:l=0 <;> by_cases b:0<=lo/\lo<=hi <;> by_cases c:1<=hi/\hi<=3 <;> simp[a,b,c]
 simp[h1,h2,h3,h4,h5,h6,h7]
theorem w9 (t:Tok): -1<=ar t/\ar t<=2:=by
 unfold ar
 grind
theorem mI {t:Tok} (h:0<=ar t):(ar t=2/\(t.1=4\/t.1=5))\/(ar t=1/\(t.1=6\/t.1=7))\/(ar t=0/\(t.1=1\/t.1=2\/t.1=3)):=by
 unfold ar at h⊢
 grind
theorem By {t:Tok} (h:0<=ar t) (k:t.1=7):(0<=t.2.2.1/\t.2.2.1<=t.2.2.2)/\(1<=t.2.2.2/\t.2.2.2<=3):=by
 unfold ar at h
 grind
mutual
def flat:Tr Tok->List Tok
 | .nil=>[]
 | .node t ks=>kO ks++ [t]
def kO:List (Tr Tok)->List Tok
 | [] =>[]
 | k::ks=>flat k++kO ks
end
inductive WT:Tr Tok->Prop
 | node {t:Tok} {ks:List (Tr Tok)} :ar t=(ks.length:Int)->(∀k,k∈ks->WT k)->WT (.node t ks)
theorem qO: ∀(a b:List (Tr Tok)),kO (a++b)=kO a++kO b
 | [],b=>rfl
 | k::a,b=>by rw[List.cons_append,kO,kO,qO a b,al]
theorem nv (x:Tr Tok):kO [x] =flat x:=by rw[kO,kO,List.append_nil]
theorem ON (x y:Tr Tok):kO [x,y] =flat x++flat y:=by rw[kO,nv]
theorem WT.cases {x:Tr Tok} (h:WT x):(∃t,x= .node t [] /\ar t=0)\/(∃t a,x= .node t [a] /\ar t=1/\WT a)\/ ∃t a b,x= .node t [a,b] /\ar t=2/\WT a/\WT b:=by
 cases h with
 | @node t ks h1 h2 =>
  have:=(w9 t).2
  match ks,h1,h2 with
  | [],h1,h2=>exact .inl ⟨t,rfl,h1⟩
  | [a],h1,h2=>exact .inr (.inl ⟨t,a,rfl,h1,h2 a (by simp)⟩)
  | [a,b],h1,h2=>exact .inr (.inr ⟨t,a,b,rfl,h1,h2 a (by simp),h2 b (by simp)⟩)
  | _::_::_::_,h1,h2=>simp at h1;omega
theorem WT.ind {p:Tr Tok->Prop} (h0: ∀t,ar t=0->p (.node t [])) (h1: ∀t a,ar t=1->WT a->p a->p (.node t [a])) (h2: ∀t a b,ar t=2->WT a->WT b->p a->p b->p (.node t [a,b])) {x:Tr Tok} (h:WT x):p x:=by
 induction h with
 | @node t ks e k ih =>
  have:=(w9 t).2
  match ks,e,k,ih with
  | [],e,k,ih=>exact h0 t e
  | [a],e,k,ih=>exact h1 t a e (k a (by simp)) (ih a (by simp))
  | [a,b],e,k,ih=>exact h2 t a b e (k a (by simp)) (k b (by simp)) (ih a (by simp)) (ih b (by simp))
  | _::_::_::_,e,_,_=>simp at e;omega
theorem Bz (t:Tok):flat (.node t [])= [t]:=by rw[flat,kO];rfl
theorem Cz (t:Tok) (a:Tr Tok):flat (.node t [a])=flat a++ [t]:=by rw[flat,nv]
theorem ue (t:Tok) (a b:Tr Tok):flat (.node t [a,b])=(flat a++flat b)++ [t]:=by rw[flat,ON]
theorem WT.pos {x:Tr Tok} (h:WT x):1<=(flat x).length:=by
 cases h with
 | node h1 h2=>rw[flat];simp
def stp (s:List (Tr Tok)) (t:Tok):Option (List (Tr Tok)):=if ar t<0\/(s.length:Int)<ar t then none else some (s.take (s.length - (ar t).toNat)++ [.node t (s.drop (s.length - (ar t).toNat))])
def run:List (Tr Tok)->List Tok->Option (List (Tr Tok))
 | s,[] =>some s
 | s,t::l=>(stp s t).bind fun s'=>run s' l
theorem Ez: ∀(a:List Tok) {b:List Tok} {s:List (Tr Tok)},run s (a++b)=(run s a).bind fun s'=>run s' b
 | [],b,s=>rfl
 | t::a,b,s=>by
  rw[List.cons_append,run,run]
  cases stp s t with
  | none=>rfl
  | some s'=>exact Ez a
theorem xa {a:List Tok} {t:Tok} {s:List (Tr Tok)} :run s (a++ [t])=(run s a).bind fun s'=>stp s' t:=by
 rw[Ez]
 congr 1
 funext s'
 rw[run]
 cases stp s' t <;> rfl
theorem Tv: ∀ {l:List Tok} {s s':List (Tr Tok)},run s l=some s'->(∀k,k∈s->WT k)->(∀k,k∈s'->WT k)/\kO s'=kO s++l
 | [],s,s',h,hs=>by
  obtain rfl:=af h
  exact ⟨hs,by simp⟩
 | t::l,s,s',h,hs=>by
  rw[run] at h
  unfold stp at h
  by_cases c:ar t<0\/(s.length:Int)<ar t
  ·rw[if_pos c] at h;cases h
  ·rw[if_neg c] at h
   have hlen:(s.drop (s.length - (ar t).toNat)).length=(ar t).toNat:=by rw[aY];omega
   obtain ⟨k1,k2⟩:=Tv (show run _ l=some s' from h) fun k hk=>by
    rcases aI hk with hk | hk
    ·exact hs k (List.mem_of_mem_take hk)
    ·obtain rfl:=aw hk
     exact .node (by rw[hlen];omega) fun k hk=>hs k (List.mem_of_mem_drop hk)
   refine ⟨k1,?_⟩
   rw[k2,qO,nv,flat,<-al,<-qO,List.take_append_drop]
   simp
theorem RV {x:Tr Tok} (h:WT x): ∀s,run s (flat x)=some (s++ [x]):=by
 refine WT.ind (p:=fun x=> ∀s,run s (flat x)=some (s++ [x])) ?_ ?_ ?_ h
 ·intro t e s
  rw[Bz,run,stp,if_neg (by omega),e]
  simp[run]
 ·intro t a e _ ia s
  rw[Cz,xa,ia]
  show stp (s++ [a]) t=_
  rw[stp,if_neg (by simp;omega),e]
  simp
 ·intro t a b e _ _ ia ib s
  rw[ue,xa,Ez,ia]
  show ((run (s++ [a]) (flat b)).bind fun s'=>stp s' t)=_
  rw[ib]
  show stp (s++ [a] ++ [b]) t=_
  rw[stp,if_neg (by simp;omega),e]
  have:(s++ [a] ++ [b]).length - (2:Int).toNat=s.length:=by simp
  rw[this]
  simp
def isX (e:List Tok):Bool:=match run [] e with
 | some [_] =>true
 | _=>false
theorem JY {e:List Tok} (h:isX e=true): ∃x,run [] e=some [x] /\WT x/\flat x=e:=by
 unfold isX at h
 split at h
 ·rename_i x hx
  obtain ⟨k1,k2⟩:=Tv hx (fun k hk=>by cases hk)
  refine ⟨x,hx,k1 x (by simp),?_⟩
  rw[nv] at k2
  rw[k2];rfl
 ·cases h
theorem OO {l:List Tok} : ∀ {s s':List (Tr Tok)},run s l=some s'->s'.length<=s.length+l.length:=by
 induction l with
 | nil=>intro s s' h;obtain rfl:=af h;simp
 | cons t l ih =>
  intro s s' h
  rw[run] at h
  obtain ⟨s1,h1,h2⟩:=Option.bind_eq_some_iff.1 h
  have h3:=ih h2
  unfold stp at h1
  split at h1
  ·cases h1
  ·obtain rfl:=af h1
   simp only[aj,aB,au,ax] at h3⊢
   omega
theorem BA {e:List Tok} {i:Nat} (h:i<e.length):e.take (i+1)=e.take i++ [nth e (i:Int)]:=by
 rw[List.take_succ_eq_append_getElem h,cw h]
theorem zI {e:List Tok} {i:Nat} (h:i<e.length) {st:List (Tr Tok)} (h1:run [] (e.take i)=some st) (h2:stp st (nth e (i:Int))=none):run [] e=none:=by
 have:run [] (e.take (i+1))=none:=by rw[BA h,xa,h1];exact h2
 rw[<-List.take_append_drop (i+1) e,Ez,this];rfl
theorem RW {e:List Tok} (he:e.length<=1048576):tF e=some (isX e):=by
 obtain ⟨o,eo,hq⟩:=cz (f:=rb e) (fun i s=> ∃st,s=((st.length:Int),(i:Int))/\run [] (e.take i)=some st) (fun o=>(o= .ret false/\run [] e=none)\/ ∃st,o= .brk ((st.length:Int),(e.length:Int))/\run [] e=some st) e.length (s:=(0,0)) (by
  rintro i s hi ⟨st,rfl,hst⟩
  have hl:=OO hst
  simp only[ax,aB] at hl
  unfold rb
  simp only[iN]
  by_cases c:i<e.length
  ·rw[if_pos (by simp;omega),az (by omega) (by omega)];simp only[ae]
   rw[aaI];simp only[ae]
   have hr:=w9 (nth e (i:Int))
   by_cases c1:ar (nth e (i:Int))<0
   ·refine .inr ⟨_,by rw[if_pos (by simpa using c1)],(fun s' e=>by cases e),.inl ⟨rfl,zI c hst ?_⟩⟩
    rw[stp,if_pos (.inl c1)]
   ·rw[if_neg (by simpa using c1)]
    by_cases c2:ar (nth e (i:Int))>(st.length:Int)
    ·refine .inr ⟨_,by rw[if_pos (by simpa using c2)],(fun s' e=>by cases e),.inl ⟨rfl,zI c hst ?_⟩⟩
     rw[stp,if_pos (.inr c2)]
    ·rw[if_neg (by simpa using c2)]
     refine .inl ⟨c,_,rfl,st.take (st.length - (ar (nth e (i:Int))).toNat)++ [.node (nth e (i:Int)) (st.drop (st.length - (ar (nth e (i:Int))).toNat))],?_,?_⟩
     ·rw[bH (n:=(st.length:Int) - ar (nth e (i:Int))) (by omega) (by omega),bH (by omega) (by omega),ah (by omega)]
      congr 1
      simp only[aj,aB,au,ax]
      omega
     ·rw[BA c,xa,hst]
      show stp st _=_
      rw[stp,if_neg (by omega)]
  ·obtain rfl:i=e.length:=by omega
   rw[List.take_of_length_le (by omega)] at hst
   exact .inr ⟨_,by rw[if_neg (by simp)],(fun s' e=>by cases e),.inr ⟨st,rfl,hst⟩⟩) ⟨[],rfl,rfl⟩ (lu (by omega))
 unfold tF
 rcases hq with ⟨rfl,h⟩ | ⟨st,rfl,h⟩
 ·rw[bs eo];unfold isX;rw[h]
 ·rw[ai eo];unfold isX;rw[h]
  match st with
  | [] =>rfl
  | [_] =>rfl
  | _::_::_=>simp;omega
theorem ZQ {t:Tok} (h:0<=ar t):(Option.bind ((if t.1==4 then (some (t.1==4)) else (some (t.1==5)):Option Bool)) (fun s3=>if s3 then (some 2) else (Option.bind ((if t.1==6 then (some (t.1==6)) else (some (t.1==7)):Option Bool)) (fun s4=>if s4 then (some 1) else (some 0)))):Option Int)=some (ar t):=by
 rcases mI h with ⟨e,k | k⟩ | ⟨e,k | k⟩ | ⟨e,k | k | k⟩ <;> rw[e] <;> simp[k]
theorem V1 (t:Tok): ∃n:Int,(Option.bind ((if t.1==4 then (some (t.1==4)) else (some (t.1==5)):Option Bool)) (fun s3=>if s3 then (some 2) else (Option.bind ((if t.1==6 then (some (t.1==6)) else (some (t.1==7)):Option Bool)) (fun s4=>if s4 then (some 1) else (some 0)))):Option Int)=some n:=by
 by_cases h4:t.1=4
 ·exact ⟨2,by simp[h4]⟩
 by_cases h5:t.1=5
 ·exact ⟨2,by simp[h5]⟩
 by_cases h6:t.1=6
 ·exact ⟨1,by simp[h6]⟩
 by_cases h7:t.1=7
 ·exact ⟨1,by simp[h7]⟩
 exact ⟨0,by simp[h4,h5,h6,h7]⟩
def zp (e:List Tok):Tr Tok:=match run [] e with
 | some [x] =>x
 | _=>.nil
theorem EA {e:List Tok} (he:e.length<=1048576):om e=some (zp e):=by
 obtain ⟨o,eo,hq⟩:=cz (f:=rh e) (fun i s=> ∃st,s=(st,(i:Int))/\run [] (e.take i)=some st) (fun o=>(o= .ret Tr.nil/\run [] e=none)\/ ∃st,o= .brk (st,(e.length:Int))/\run [] e=some st) e.length (s:=([],0)) (by
  rintro i s hi ⟨st,rfl,hst⟩
  have hl:=OO hst
  simp only[ax,aB] at hl
  unfold rh
  simp only[iN]
  by_cases c:i<e.length
  ·rw[if_pos (by simp;omega),az (by omega) (by omega)];simp only[ae]
   have hr:=w9 (nth e (i:Int))
   by_cases c1:ar (nth e (i:Int))<0
   ·obtain ⟨n,hn⟩:=V1 (nth e (i:Int))
    rw[hn];simp only[ae]
    rw[X6];simp only[ae]
    refine .inr ⟨_,by rw[if_neg (by simp;omega)],(fun s' e=>by cases e),.inl ⟨rfl,zI c hst ?_⟩⟩
    rw[stp,if_pos (.inl c1)]
   ·rw[ZQ (by omega)];simp only[ae]
    rw[X6];simp only[ae]
    rw[if_pos (by simp;omega),bH (n:=(st.length:Int) - ar (nth e (i:Int))) (by omega) (by omega)]
    by_cases c2:ar (nth e (i:Int))>(st.length:Int)
    ·refine .inr ⟨_,by rw[if_pos (by simp;omega)],(fun s' e=>by cases e),.inl ⟨rfl,zI c hst ?_⟩⟩
     rw[stp,if_pos (.inr c2)]
    ·rw[if_neg (by simp;omega),show∀p:Prop,∀ [Decidable p],p->chk p=some () from fun p _ hp=>by unfold chk;rw[if_pos hp]]
     ·simp only[ae]
      have e1:((st.length:Int) - ar (nth e (i:Int))).toNat=st.length - (ar (nth e (i:Int))).toNat:=by omega
      rw[e1,aH (by simp;omega)];simp only[ae]
      rw[aH (by simp;omega)];simp only[ae,List.nil_append,ah (show i<9223372036854775807 by omega)]
      refine .inl ⟨c,_,rfl,_,rfl,?_⟩
      rw[BA c,xa,hst]
      show stp st _=_
      rw[stp,if_neg (by omega)]
     ·omega
  ·obtain rfl:i=e.length:=by omega
   rw[List.take_of_length_le (by omega)] at hst
   exact .inr ⟨_,by rw[if_neg (by simp)],(fun s' e=>by cases e),.inr ⟨st,rfl,hst⟩⟩) ⟨[],rfl,rfl⟩ (lu (by omega))
 unfold om
 rcases hq with ⟨rfl,h⟩ | ⟨st,rfl,h⟩
 ·rw[bs eo];unfold zp;rw[h]
 ·rw[ai eo];unfold zp;rw[h]
  match st with
  | [] =>rfl
  | [x] =>rfl
  | _::_::_ =>
   simp only
   rw[if_pos (by simp;omega)]
theorem tU {x:Tr Tok} (h:WT x):zp (flat x)=x:=by unfold zp;rw[RV h];rfl
theorem RX {e:List Tok} (he:e.length<=1048576):tK e=some (isX e):=by
 unfold tK
 rw[EA he];simp only[ae]
 congr 1
 by_cases h:isX e=true
 ·rw[h]
  obtain ⟨x,h1,h2,h3⟩:=JY h
  have:zp e=x:=by unfold zp;rw[h1]
  rw[this]
  cases h2 with
  | node _ _=>rfl
 ·have:zp e= .nil:=by
   unfold zp
   unfold isX at h
   split
   ·rename_i x hx;rw[hx] at h;exact absurd rfl h
   ·rfl
  rw[this,Bool.eq_false_iff.2 h];rfl
theorem BB {e:List Tok} (he:e.length<=1048576):jf e=some (decide (e.length<=24)&&isX e):=by
 unfold jf
 rw[RW he]
 by_cases c:e.length<=24
 ·rw[if_pos (by simp;omega)];simp[c]
 ·rw[if_neg (by simp;omega)];simp[c]
theorem Iu {e:List Tok} (he:e.length<=1048576):lK e=some (decide (e.length<=24)&&isX e):=by
 unfold lK
 rw[RX he]
 by_cases c:e.length<=24
 ·rw[if_pos (by simp;omega)];simp[c]
 ·rw[if_neg (by simp;omega)];simp[c]
theorem jF {p:Prop} [Decidable p] (h:p):chk p=some ():=by unfold chk;rw[if_pos h]
theorem V2 {A:List Tok} {x:Tr Tok} (hx:WT x) (hl:(A++flat x).length<=1000000):jg (A++flat x)=some (A.length:Int):=by
 obtain ⟨s',e,ks,q1,q2,q3⟩: ∃s',aA (mL (A++flat x)) aT (1,((A++flat x).length:Int))=some (.brk s')/\ ∃ks:List (Tr Tok),ks= [] /\s'.2=(A.length:Int)/\True:=by
  obtain ⟨o,eo,hq⟩:=cz (f:=mL (A++flat x)) (fun i s=> ∃ks:List (Tr Tok),(∀k,k∈ks->WT k)/\s=((ks.length:Int),(((A++kO ks).length:Nat):Int))/\i+(kO ks).length=(flat x).length/\(A++flat x).take (A++kO ks).length=A++kO ks) (fun o=> ∃s',o= .brk s'/\s'.2=(A.length:Int)) (flat x).length (s:=(1,((A++flat x).length:Int))) (by
   rintro i s hi ⟨ks,hw,rfl,hlen,htk⟩
   unfold mL
   simp only[iN]
   rcases List.eq_nil_or_concat ks with rfl | ⟨ks',y,rfl⟩
   ·refine .inr ⟨_,by rw[if_neg (by simp)],(fun s' e=>by cases e),_,rfl,?_⟩
    simp[kO]
   ·have hy:=hw y (by simp)
    cases hy with
    | @node t cs h1 h2 =>
     have hfl:kO (ks'++ [.node t cs])=kO (ks'++cs)++ [t]:=by rw[qO,nv,flat,qO,al]
     rw[List.concat_eq_append,hfl] at hlen htk⊢
     simp only[aj,au,ax] at hlen htk hl⊢
     rw[if_pos (by simp <;> omega)]
     have hpos:i64.wrap (((A.length+((kO (ks'++cs)).length+1):Nat):Int) - 1)=((A.length+(kO (ks'++cs)).length:Nat):Int):=by
      rw[bH (by omega) (by omega)];omega
     have hget:nth (A++flat x) ((A.length+(kO (ks'++cs)).length:Nat):Int)=t:=by
      have hlt:A.length+(kO (ks'++cs)).length<(A++flat x).length:=by rw[aj];omega
      have e1:=congrArg (fun l:List Tok=>l[A.length+(kO (ks'++cs)).length]?) htk
      rw[List.getElem?_take_of_lt (by omega),List.getElem?_eq_getElem hlt,<-al,List.getElem?_append_right (by rw[aj];omega),aj] at e1
      rw[cw hlt]
      simpa using e1
     rw[hpos,az (by omega) (by simp only[aj];omega),hget];simp only[ae]
     rw[aaI,h1];simp only[ae]
     have hcl:(cs.length:Int)<=2:=by rw[<-h1];exact (w9 t).2
     have hkl:ks'.length<=(kO (ks'++cs)).length+1000000:=by
      have: ∀l:List (Tr Tok),(∀k,k∈l->WT k)->l.length<=(kO l).length:=by
       intro l
       induction l with
       | nil=>intro _;simp
       | cons k l ih =>
        intro h
        have h1:=(h k (by simp)).pos
        have h2:=ih fun k hk=>h k (by simp[hk])
        rw[kO];simp only[au,aj];omega
      have:=this ks' fun k hk=>hw k (by simp[hk])
      rw[qO,aj];omega
     refine .inl ⟨by omega,_,rfl,ks'++cs,fun k hk=>?_,?_,by omega,?_⟩
     ·rcases aI hk with hk | hk
      ·exact hw k (by simp[hk])
      ·exact h2 k hk
     ·rw[bH (n:=((ks'.length+1:Nat):Int) - 1) (by omega) (by omega),bH (by omega) (by omega)]
      congr 1
      (simp only[aj]) <;> omega
     ·have e1:=congrArg (List.take (A++kO (ks'++cs)).length) htk
      rw[List.take_take,Nat.min_eq_left (by rw[aj];omega),<-al,List.take_left] at e1
      rw[aj] at e1
      exact e1) ⟨[x],fun k hk=>by (obtain rfl:=aw hk;exact hx),by rw[nv];rfl,by rw[nv];omega,by rw[nv,List.take_length]⟩ (lu (by rw[aj] at hl;omega))
  obtain ⟨s',rfl,h2⟩:=hq
  exact ⟨s',eo,[],rfl,h2,trivial⟩
 unfold jg
 rw[ai e,q2]
end D
namespace D
open Go.RowKit
instance trInh {α:Type} :Inhabited (Tr α):=⟨.nil⟩
def szX:Tr Tok->Int
 | .nil=>0
 | .node t ks=>min (szL t 1 ks) 100000
where szL (t:Tok) (acc:Int):List (Tr Tok)->Int
 | [] =>acc
 | k::ks=>szL t (acc+(if t.1=7 then (szX k+3)*t.2.2.2 else szX k)) ks
theorem fD {x:Tr Tok} (h:WT x):1<=szX x/\szX x<=100000:=by
 refine WT.ind (p:=fun x=>1<=szX x/\szX x<=100000) ?_ ?_ ?_ h
 ·intro t _
  show 1<=min (1:Int) 100000/\min (1:Int) 100000<=100000
  omega
 ·intro t a e _ ih
  show 1<=min ((1:Int)+(if t.1=7 then (szX a+3)*t.2.2.2 else szX a)) 100000/\min ((1:Int)+(if t.1=7 then (szX a+3)*t.2.2.2 else szX a)) 100000<=100000
  split
  ·rename_i k
   have hr:=By (show 0<=ar t by omega) k
   have:0<=(szX a+3)*t.2.2.2:=Int.mul_nonneg (by omega) (by omega)
   omega
  ·omega
 ·intro t a b e _ _ iha ihb
  have k:t.1≠7:=by
   rcases mI (show 0<=ar t by omega) with ⟨_,k⟩ | ⟨k,_⟩ | ⟨k,_⟩ <;> omega
  show 1<=min ((1:Int)+(if t.1=7 then (szX a+3)*t.2.2.2 else szX a)+(if t.1=7 then (szX b+3)*t.2.2.2 else szX b)) 100000/\min ((1:Int)+(if t.1=7 then (szX a+3)*t.2.2.2 else szX a)+(if t.1=7 then (szX b+3)*t.2.2.2 else szX b)) 100000<=100000
  rw[if_neg k,if_neg k]
  omega
theorem GM {a h:Int} (h1:1<=a/\a<=100000) (h2:1<=h/\h<=3):i64.wrap ((i64.wrap (a+3))*h)=(a+3)*h:=by
 rw[bH (n:=a+3) (by omega) (by omega)]
 have k1:0<=(a+3)*h:=Int.mul_nonneg (by omega) (by omega)
 have k2:(a+3)*h<=100003*3:=Int.mul_le_mul (by omega) (by omega) (by omega) (by omega)
 exact bH (by omega) (by omega)
theorem OP {a h:Int} (h1:1<=a/\a<=100000) (h2:1<=h/\h<=3):0<=(a+3)*h/\(a+3)*h<=300009:=by
 have k1:0<=(a+3)*h:=Int.mul_nonneg (by omega) (by omega)
 have k2:(a+3)*h<=100003*3:=Int.mul_le_mul (by omega) (by omega) (by omega) (by omega)
 omega
theorem qP {t:Tok} {ks:List (Tr Tok)} :Tr.get (.node t ks)=some (t,ks):=rfl
theorem ym {f:Tr Tok->Option Int} {t:Tok} {ks:List (Tr Tok)} {i:Nat} {acc:Int} (hi:i<ks.length) (hf:f (nth ks (i:Int))=some (szX (nth ks (i:Int)))) (hw:WT (nth ks (i:Int))) (ht:0<=ar t) (ha:0<=acc/\acc<=1000000) (hik:i<=1000000) :
  bK f (.node t ks) (t,ks) (acc,(i:Int))=some (.nxt (acc+(if t.1=7 then (szX (nth ks (i:Int))+3)*t.2.2.2 else szX (nth ks (i:Int))),((i+1:Nat):Int))):=by
 unfold bK
 simp only[qP]
 have hr:=fD hw
 rw[if_pos (by simp <;> omega),az (by omega) (by omega)];simp only[ae]
 by_cases k:t.1=7
 ·have h7:=By ht k
  have hm:=OP hr h7.2
  rw[if_pos (by simpa using k),if_pos k,hf];simp only[ae]
  rw[GM hr h7.2,bH (by omega) (by omega),ah (by omega)]
 ·rw[if_neg (by simpa using k),if_neg k,hf];simp only[ae]
  rw[bH (by omega) (by omega),ah (by omega)]
theorem zJ {α:Type} [Inhabited α] {a:α} {l:List α} :nth (a::l) ((0:Nat):Int)=a:=rfl
theorem OQ {α:Type} [Inhabited α] {a b:α} {l:List α} :nth (a::b::l) ((1:Nat):Int)=b:=rfl
theorem V3 {x:Tr Tok} (h:WT x): ∀n,(flat x).length<=n->cd n x=some (szX x):=by
 refine WT.ind (p:=fun x=> ∀n,(flat x).length<=n->cd n x=some (szX x)) ?_ ?_ ?_ h
 ·intro t e n hn
  rw[Bz] at hn
  match n,hn with
  | n+1,_ =>
   rw[cd];simp only[qP,ae]
   have hL:aA (bK (cd n) (.node t []) (t,[])) aT (1,0)=some (.brk (1,0)):=aU (f:=bK (cd n) (.node t []) (t,[])) (fun i=>(1,(i:Int))) 0 (fun i hi=>by omega) (by unfold bK;simp) (by unfold aT;omega)
   rw[ai hL]
   all_goals rfl
 ·intro t a e wa ih n hn
  rw[Cz,aj] at hn
  match n,hn with
  | n+1,hn =>
   have hr:=fD wa
   rw[cd];simp only[qP,ae]
   have hL:aA (bK (cd n) (.node t [a]) (t,[a])) aT (1,0)=some (.brk (szX.szL t 1 [a],1)):=aU (f:=bK (cd n) (.node t [a]) (t,[a])) (fun i=>(szX.szL t 1 ([a].take i),(i:Int))) 1 (fun i hi=>by
    obtain rfl:i=0:=by omega
    exact ym (acc:=1) (i:=0) (by simp) (ih n (by simp at hn;omega)) wa (by omega) (by omega) (by omega)) (by unfold bK;simp) (by unfold aT;omega)
   rw[ai hL]
   all_goals rfl
 ·intro t a b e wa wb iha ihb n hn
  rw[ue,aj,aj] at hn
  match n,hn with
  | n+1,hn =>
   have hra:=fD wa
   have hrb:=fD wb
   have k:t.1≠7:=by
    rcases mI (show 0<=ar t by omega) with ⟨_,k⟩ | ⟨k,_⟩ | ⟨k,_⟩ <;> omega
   rw[cd];simp only[qP,ae]
   have hL:aA (bK (cd n) (.node t [a,b]) (t,[a,b])) aT (1,0)=some (.brk (szX.szL t 1 [a,b],2)):=aU (f:=bK (cd n) (.node t [a,b]) (t,[a,b])) (fun i=>(szX.szL t 1 ([a,b].take i),(i:Int))) 2 (fun i hi=>by
    have:i=0\/i=1:=by omega
    rcases this with rfl | rfl
    ·exact ym (acc:=1) (i:=0) (by simp) (iha n (by simp at hn;omega)) wa (by omega) (by omega) (by omega)
    ·exact ym (acc:=1+(if t.1=7 then (szX a+3)*t.2.2.2 else szX a)) (i:=1) (by simp) (ihb n (by simp at hn;omega)) wb (by omega) (by rw[if_neg k];omega) (by omega)) (by unfold bK;simp) (by unfold aT;omega)
   rw[ai hL]
   all_goals rfl
theorem kG {A:List Tok} {t:Tok} (h:A.length<=1000000):aQ (A++ [t]) (i64.wrap (((A++ [t]).length:Int) - 1))=some t/\i64.wrap (((A++ [t]).length:Int) - 1)=(A.length:Int):=by
 have e:i64.wrap (((A++ [t]).length:Int) - 1)=(A.length:Int):=by
  rw[bH (by simp only[aj,au,ax];omega) (by simp only[aj,au,ax];omega)]
  simp only[aj,au,ax];omega
 refine ⟨?_,e⟩
 rw[e,az (by omega) (by simp only[aj,au,ax];omega),cw (by simp)]
 simp
theorem aaJ {t:Tok} (h:ar t=2):(if t.1==4 then (some (t.1==4)) else (some (t.1==5)):Option Bool)=some true:=by
 rcases mI (show 0<=ar t by omega) with ⟨_,k | k⟩ | ⟨e,_⟩ | ⟨e,_⟩
 ·simp[k]
 ·simp[k]
 ·omega
 ·omega
theorem RY {t:Tok} (h:ar t=1\/ar t=0):(if t.1==4 then (some (t.1==4)) else (some (t.1==5)):Option Bool)=some false:=by
 rcases mI (show 0<=ar t by omega) with ⟨e,k⟩ | ⟨e,k | k⟩ | ⟨e,k | k | k⟩
 ·omega
 all_goals simp[k]
theorem X7 {t:Tok} (h:ar t=0):(t.1==6)=false/\(t.1==7)=false:=by
 rcases mI (show 0<=ar t by omega) with ⟨e,k⟩ | ⟨e,k | k⟩ | ⟨e,k | k | k⟩
 ·omega
 ·omega
 ·omega
 all_goals simp[k]
theorem OR {t:Tok} (h:ar t=1):((t.1==6)=true/\t.1=6)\/((t.1==6)=false/\(t.1==7)=true/\t.1=7):=by
 rcases mI (show 0<=ar t by omega) with ⟨e,k⟩ | ⟨e,k | k⟩ | ⟨e,k | k | k⟩
 ·omega
 ·left;simp[k]
 ·right;simp[k]
 all_goals omega
theorem xb {a b:Tr Tok} {t:Tok} (wb:WT b) (hl:((flat a++flat b)++ [t]).length<=1000000) :
  (((flat a++flat b)++ [t]).take ((((flat a++flat b).length:Nat):Int)).toNat)=flat a++flat b /\
  jg (flat a++flat b)=some (((flat a).length:Nat):Int) /\
  (((flat a++flat b)++ [t]).take ((((flat a).length:Nat):Int)).toNat)=flat a /\
  (flat a++flat b).drop ((((flat a).length:Nat):Int)).toNat=flat b:=by
 refine ⟨?_,V2 wb (by simp only[aj,au,ax] at hl⊢;omega),?_,?_⟩
 ·rw[Int.toNat_natCast,List.take_left]
 ·rw[Int.toNat_natCast,al,List.take_left]
 ·rw[Int.toNat_natCast,List.drop_left]
theorem Tw {x:Tr Tok} (h:WT x): ∀n,(flat x).length<=n->(flat x).length<=1000000->fv n (flat x)=some (szX x):=by
 refine WT.ind (p:=fun x=> ∀n,(flat x).length<=n->(flat x).length<=1000000->fv n (flat x)=some (szX x)) ?_ ?_ ?_ h
 ·intro t e n hn hl
  rw[Bz] at hn hl⊢
  match n,hn with
  | n+1,_ =>
   have hk:=X7 e
   rw[fv]
   have:=(kG (A:=[]) (t:=t) (by simp)).1
   rw[List.nil_append] at this
   rw[this];simp only[ae]
   rw[RY (.inr e)];simp only[ae,hk.1,hk.2,Bool.false_eq_true,if_false]
   rfl
 ·intro t a e wa ih n hn hl
  rw[Cz] at hn hl⊢
  simp only[aj,au,ax] at hn hl
  match n,hn with
  | n+1,hn =>
   have hr:=fD wa
   rw[fv]
   obtain ⟨l1,l2⟩:=kG (A:=flat a) (t:=t) (by omega)
   rw[l1];simp only[ae]
   rw[RY (.inl e)];simp only[ae,Bool.false_eq_true,if_false]
   rw[l2,Int.toNat_natCast,List.take_left,jF (by simp only[aj,au,ax];omega)];simp only[ae]
   rw[ih n (by omega) (by omega)];simp only[ae]
   rcases OR e with ⟨k1,k2⟩ | ⟨k1,k2,k3⟩
   ·rw[if_pos k1,bH (by omega) (by omega)]
    show some (min 100000 (szX a+1))=some (min ((1:Int)+(if t.1=7 then (szX a+3)*t.2.2.2 else szX a)) 100000)
    rw[if_neg (by omega)]
    congr 1;omega
   ·have h7:=By (show 0<=ar t by omega) k3
    have hm:=OP hr h7.2
    rw[if_neg (by simp[k1]),if_pos k2,GM hr h7.2,bH (by omega) (by omega)]
    show some (min 100000 ((szX a+3)*t.2.2.2+1))=some (min ((1:Int)+(if t.1=7 then (szX a+3)*t.2.2.2 else szX a)) 100000)
    rw[if_pos k3]
    congr 1;omega
 ·intro t a b e wa wb iha ihb n hn hl
  rw[ue] at hn hl⊢
  obtain ⟨p1,p2,p3,p4⟩:=xb (a:=a) (t:=t) wb hl
  simp only[aj,au,ax] at hn hl
  match n,hn with
  | n+1,hn =>
   have hra:=fD wa
   have hrb:=fD wb
   have k:t.1≠7:=by
    rcases mI (show 0<=ar t by omega) with ⟨_,k⟩ | ⟨k,_⟩ | ⟨k,_⟩ <;> omega
   rw[fv]
   obtain ⟨l1,l2⟩:=kG (A:=flat a++flat b) (t:=t) (by rw[aj];omega)
   rw[l1];simp only[ae]
   rw[aaJ e];simp only[ae,if_true]
   rw[l2,p1,p2,jF (by simp only[aj,au,ax];omega)];simp only[ae]
   rw[jF (by simp only[aj,au,ax];omega),p3,p4];simp only[ae]
   rw[iha n (by omega) (by omega),jF (by simp only[aj,au,ax];omega)];simp only[ae]
   rw[ihb n (by have:=wa.pos;omega) (by omega)];simp only[ae]
   rw[bH (n:=szX a+szX b) (by omega) (by omega),bH (by omega) (by omega)]
   show some (min 100000 (szX a+szX b+1))=some (min ((1:Int)+(if t.1=7 then (szX a+3)*t.2.2.2 else szX a)+(if t.1=7 then (szX b+3)*t.2.2.2 else szX b)) 100000)
   rw[if_neg k,if_neg k]
   congr 1;omega
def RZ:Tr Tok:=.node (2,0,0,0) []
def Iv (x:Tr Tok):Nat->Int->Tr Tok
 | 0,_=>RZ
 | h+1,low=>if 0<low then .node (4,0,0,0) [x,Iv x h (max 0 (low - 1))] else .node (5,0,0,0) [.node (4,0,0,0) [x,Iv x h (max 0 (low - 1))],RZ]
mutual
def ry:Tr Tok->Tr Tok
 | .nil=>.nil
 | .node t ks=>if t.1=7 then Iv ((PZ ks).headD .nil) t.2.2.2.toNat t.2.2.1 else .node t (PZ ks)
def PZ:List (Tr Tok)->List (Tr Tok)
 | [] =>[]
 | k::ks=>ry k::PZ ks
end
theorem ar4:ar (4,0,0,0)=2:=by decide
theorem ar5:ar (5,0,0,0)=2:=by decide
theorem ar2:ar (2,0,0,0)=0:=by decide
theorem OS:WT RZ:=.node ar2 fun k hk=>by cases hk
theorem xc:flat RZ= [(2,0,0,0)]:=Bz _
theorem WT.two {t:Tok} {a b:Tr Tok} (h:ar t=2) (ha:WT a) (hb:WT b):WT (.node t [a,b]):=.node h fun k hk=>by
 rcases aD hk with rfl | hk
 ·exact ha
 ·obtain rfl:=aw hk
  exact hb
theorem WT.one {t:Tok} {a:Tr Tok} (h:ar t=1) (ha:WT a):WT (.node t [a]):=.node h fun k hk=>by
 obtain rfl:=aw hk
 exact ha
theorem Iw {x:Tr Tok} (hx:WT x): ∀(h:Nat) (low:Int),WT (Iv x h low)
 | 0,_=>OS
 | h+1,low=>by
  rw[Iv]
  split
  ·exact .two ar4 hx (Iw hx h _)
  ·exact .two ar5 (.two ar4 hx (Iw hx h _)) OS
theorem EB (x:Tr Tok): ∀(h:Nat) (low:Int),(flat (Iv x h low)).length<=((flat x).length+3)*h+1
 | 0,_=>by rw[Iv,xc];simp
 | h+1,low=>by
  have ih:=EB x h (max 0 (low - 1))
  rw[Iv]
  split
  ·rw[ue];simp only[aj,au,ax]
   rw[Nat.mul_succ];omega
  ·rw[ue,ue,xc];simp only[aj,au,ax]
   rw[Nat.mul_succ];omega
theorem Zh {t:Tok} {a:Tr Tok} :ry (.node t [a])=if t.1=7 then Iv (ry a) t.2.2.2.toNat t.2.2.1 else .node t [ry a]:=by rw[ry,PZ,PZ];rfl
theorem exp2 {t:Tok} {a b:Tr Tok} (h:t.1≠7):ry (.node t [a,b])= .node t [ry a,ry b]:=by rw[ry,if_neg h,PZ,PZ,PZ]
theorem Zi {t:Tok} (h:t.1≠7):ry (.node t [])= .node t []:=by rw[ry,if_neg h,PZ]
theorem no7 {t:Tok} (h:ar t=2\/ar t=0):t.1≠7:=by
 rcases mI (show 0<=ar t by omega) with ⟨_,k⟩ | ⟨k,_⟩ | ⟨_,k⟩ <;> omega
theorem Tx {x:Tr Tok} (h:WT x):WT (ry x):=by
 refine WT.ind (p:=fun x=>WT (ry x)) ?_ ?_ ?_ h
 ·intro t e
  rw[Zi (no7 (.inr e))]
  exact .node e fun k hk=>by cases hk
 ·intro t a e _ ih
  rw[Zh]
  split
  ·exact Iw ih _ _
  ·exact .one e ih
 ·intro t a b e _ _ iha ihb
  rw[exp2 (no7 (.inl e))]
  exact .two e iha ihb
theorem BC {x:Tr Tok} (h:WT x):szX x<100000->((flat (ry x)).length:Int)<=szX x:=by
 refine WT.ind (p:=fun x=>szX x<100000->((flat (ry x)).length:Int)<=szX x) ?_ ?_ ?_ h
 ·intro t e _
  rw[Zi (no7 (.inr e)),Bz]
  show (1:Int)<=min 1 100000
  omega
 ·intro t a e wa ih hs
  have hr:=fD wa
  have hs':min ((1:Int)+(if t.1=7 then (szX a+3)*t.2.2.2 else szX a)) 100000<100000:=hs
  show _<=min ((1:Int)+(if t.1=7 then (szX a+3)*t.2.2.2 else szX a)) 100000
  rw[Zh]
  by_cases k:t.1=7
  ·rw[if_pos k] at hs'⊢
   rw[if_pos k]
   have h7:=By (show 0<=ar t by omega) k
   have hge:szX a+3<=(szX a+3)*t.2.2.2:=by
    have:=Int.mul_le_mul_of_nonneg_left (c:=szX a+3) h7.2.1 (by omega)
    omega
   have h1:=ih (by omega)
   have h2:=EB (ry a) t.2.2.2.toNat t.2.2.1
   have h3:(((flat (ry a)).length+3)*t.2.2.2.toNat:Int)<=(szX a+3)*t.2.2.2:=by
    rw[Int.toNat_of_nonneg (by omega)]
    exact Int.mul_le_mul_of_nonneg_right (by omega) (by omega)
   have h4:((flat (Iv (ry a) t.2.2.2.toNat t.2.2.1)).length:Int)<=(((flat (ry a)).length+3)*t.2.2.2.toNat:Int)+1:=by exact_mod_cast h2
   omega
  ·rw[if_neg k] at hs'⊢
   rw[if_neg k,Cz]
   have h1:=ih (by omega)
   simp only[aj,au,ax]
   omega
 ·intro t a b e wa wb iha ihb hs
  have hra:=fD wa
  have hrb:=fD wb
  have k:=no7 (.inl e)
  have hs':min ((1:Int)+(if t.1=7 then (szX a+3)*t.2.2.2 else szX a)+(if t.1=7 then (szX b+3)*t.2.2.2 else szX b)) 100000<100000:=hs
  show _<=min ((1:Int)+(if t.1=7 then (szX a+3)*t.2.2.2 else szX a)+(if t.1=7 then (szX b+3)*t.2.2.2 else szX b)) 100000
  rw[if_neg k,if_neg k] at hs'⊢
  rw[exp2 k,ue]
  have h1:=iha (by omega)
  have h2:=ihb (by omega)
  simp only[aj,au,ax]
  omega
theorem Dl {x:Tr Tok} : ∀(h n:Nat) (low:Int),h<n->h<=3->0<=low->low<=3->kV n x low (h:Int)=some (Iv x h low)
 | 0,n+1,low,_,_,_,_=>by
  rw[kV,if_pos (by rfl)];rfl
 | h+1,n+1,low,h1,h2,h3,h4=>by
  rw[kV,if_neg (by simp;omega),bH (n:=low - 1) (by omega) (by omega),bH (n:=((h+1:Nat):Int) - 1) (by omega) (by omega)]
  rw[show ((h+1:Nat):Int) - 1=(h:Int) from by omega,Dl h n (max 0 (low - 1)) (by omega) (by omega) (by omega) (by omega)];simp only[ae]
  rw[Iv]
  by_cases c:0<low
  ·rw[if_pos (by simpa using c),if_pos c]
  ·rw[if_neg (by simpa using c),if_neg c];rfl
theorem BD {a b:List Tok} {t:Tok} (h:a.length+b.length<=1000000):fl a b t=some ((a++b)++ [t]):=by
 unfold fl fM
 rw[aH (by simp only[aj,au,ax];omega)];simp only[ae,List.nil_append]
 rw[aH (by omega)];simp only[ae]
 rw[aH (by simp only[aj,au,ax];omega)];rfl
theorem OT {x:Tr Tok} : ∀(h n:Nat) (low:Int),h<n->h<=3->0<=low->low<=3->(flat x).length<=100000->kS n (flat x) low (h:Int)=some (flat (Iv x h low))
 | 0,n+1,low,_,_,_,_,_=>by
  rw[kS,if_pos (by rfl),Iv,xc];rfl
 | h+1,n+1,low,h1,h2,h3,h4,h5=>by
  rw[kS,if_neg (by simp;omega),bH (n:=low - 1) (by omega) (by omega),bH (n:=((h+1:Nat):Int) - 1) (by omega) (by omega)]
  rw[show ((h+1:Nat):Int) - 1=(h:Int) from by omega,OT h n (max 0 (low - 1)) (by omega) (by omega) (by omega) (by omega) h5];simp only[ae]
  have hl:=EB x h (max 0 (low - 1))
  have hl3:((flat x).length+3)*h<=100003*3:=Nat.mul_le_mul (by omega) (by omega)
  rw[BD (by omega),Iv];simp only[ae]
  by_cases c:0<low
  ·rw[if_pos (by simpa using c),if_pos c,ue]
  ·rw[if_neg (by simpa using c),if_neg c,ue,ue,xc]
   show (oh 2).bind _=_
   unfold oh;simp only[ae]
   rw[BD (by simp only[aj,au,ax];omega)];rfl
theorem pf:1000000000000<=fJ:=by rw[Qd];unfold aT;omega
theorem R0 {x:Tr Tok} (h:WT x): ∀n,(flat x).length<=n->bF n x=some (ry x):=by
 have hF:=pf
 refine WT.ind (p:=fun x=> ∀n,(flat x).length<=n->bF n x=some (ry x)) ?_ ?_ ?_ h
 ·intro t e n hn
  rw[Bz] at hn
  have k:=no7 (.inr e)
  match n,hn with
  | n+1,_ =>
   rw[bF];simp only[qP,ae]
   rw[if_neg (by simpa using k),Zi k]
   have hL:aA (bw (bF n) (t,[])) aT (0,t.1,t.2.1,t.2.2.1,t.2.2.2,[])=some (.brk (0,t.1,t.2.1,t.2.2.1,t.2.2.2,[])):=aU (f:=bw (bF n) (t,[])) (fun i=>((i:Int),t.1,t.2.1,t.2.2.1,t.2.2.2,PZ (([] :List (Tr Tok)).take i))) 0 (fun i hi=>by omega) (by unfold bw;simp) (by unfold aT;omega)
   rw[ai hL]
   all_goals rfl
 ·intro t a e wa ih n hn
  rw[Cz,aj] at hn
  match n,hn with
  | n+1,hn =>
   have ia:=ih n (by simp at hn;omega)
   rw[bF,Zh];simp only[qP,ae]
   rcases OR e with ⟨k1,k2⟩ | ⟨k1,k2,k3⟩
   ·rw[if_neg (by simp;omega),if_neg (by omega)]
    have hL:aA (bw (bF n) (t,[a])) aT (0,t.1,t.2.1,t.2.2.1,t.2.2.2,[])=some (.brk (1,t.1,t.2.1,t.2.2.1,t.2.2.2,[ry a])):=aU (f:=bw (bF n) (t,[a])) (fun i=>((i:Int),t.1,t.2.1,t.2.2.1,t.2.2.2,[ry a].take i)) 1 (fun i hi=>by
     obtain rfl:i=0:=by omega
     unfold bw
     simp only
     rw[if_pos (by simp),az (by omega) (by simp),zJ];simp only[ae]
     rw[ia];simp only[ae]
     rw[aH (by simp)];rfl) (by unfold bw;simp) (by unfold aT;omega)
    rw[ai hL]
    all_goals rfl
   ·have h7:=By (show 0<=ar t by omega) k3
    rw[if_pos k2,if_pos k3,show aQ [a] 0=some a from rfl];simp only[ae]
    rw[ia];simp only[ae]
    have:=Dl (x:=ry a) t.2.2.2.toNat fJ t.2.2.1 (by omega) (by omega) (by omega) (by omega)
    rw[Int.toNat_of_nonneg (by omega)] at this
    rw[this];rfl
 ·intro t a b e wa wb iha ihb n hn
  rw[ue,aj,aj] at hn
  have k:=no7 (.inl e)
  match n,hn with
  | n+1,hn =>
   have ia:=iha n (by simp at hn;omega)
   have ib:=ihb n (by simp at hn;omega)
   rw[bF,exp2 k];simp only[qP,ae]
   rw[if_neg (by simpa using k)]
   have hL:aA (bw (bF n) (t,[a,b])) aT (0,t.1,t.2.1,t.2.2.1,t.2.2.2,[])=some (.brk (2,t.1,t.2.1,t.2.2.1,t.2.2.2,[ry a,ry b])):=aU (f:=bw (bF n) (t,[a,b])) (fun i=>((i:Int),t.1,t.2.1,t.2.2.1,t.2.2.2,[ry a,ry b].take i)) 2 (fun i hi=>by
    have:i=0\/i=1:=by omega
    rcases this with rfl | rfl
    ·unfold bw
     simp only
     rw[if_pos (by simp),az (by omega) (by simp),zJ];simp only[ae]
     rw[ia];simp only[ae]
     rw[aH (by simp)];rfl
    ·unfold bw
     simp only
     rw[if_pos (by simp),az (by omega) (by simp),OQ];simp only[ae]
     rw[ib];simp only[ae]
     rw[aH (by simp)];rfl) (by unfold bw;simp) (by unfold aT;omega)
   rw[ai hL]
   all_goals rfl
theorem OU {x:Tr Tok} (h:WT x): ∀n out,(flat x).length<=n->out.length+(flat x).length<=1000000->bD n x out=some (out++flat x):=by
 refine WT.ind (p:=fun x=> ∀n out,(flat x).length<=n->out.length+(flat x).length<=1000000->bD n x out=some (out++flat x)) ?_ ?_ ?_ h
 ·intro t e n out hn hl
  rw[Bz] at hn hl⊢
  simp only[au,ax] at hl
  match n,hn with
  | n+1,_ =>
   rw[bD];simp only[qP,ae]
   have hL:aA (bp (bD n) (t,[])) aT (0,out)=some (.brk (0,out)):=aU (f:=bp (bD n) (t,[])) (fun i=>((i:Int),out)) 0 (fun i hi=>by omega) (by unfold bp;simp) (by unfold aT;omega)
   rw[ai hL]
   simp only
   rw[aH (by simp;omega)];rfl
 ·intro t a e wa ih n out hn hl
  rw[Cz] at hn hl⊢
  simp only[aj,au,ax] at hn hl
  match n,hn with
  | n+1,hn =>
   rw[bD];simp only[qP,ae]
   have hL:aA (bp (bD n) (t,[a])) aT (0,out)=some (.brk (1,out++flat a)):=aU (f:=bp (bD n) (t,[a])) (fun i=>((i:Int),if i=0 then out else out++flat a)) 1 (fun i hi=>by
    obtain rfl:i=0:=by omega
    unfold bp
    simp only
    rw[if_pos (by simp),az (by omega) (by simp),zJ];simp only[ae,if_true]
    rw[ih n _ (by omega) (by omega)];rfl) (by unfold bp;simp) (by unfold aT;omega)
   rw[ai hL]
   simp only
   rw[aH (by simp;omega)];simp
 ·intro t a b e wa wb iha ihb n out hn hl
  rw[ue] at hn hl⊢
  simp only[aj,au,ax] at hn hl
  match n,hn with
  | n+1,hn =>
   rw[bD];simp only[qP,ae]
   have hL:aA (bp (bD n) (t,[a,b])) aT (0,out)=some (.brk (2,(out++flat a)++flat b)):=aU (f:=bp (bD n) (t,[a,b])) (fun i=>((i:Int),if i=0 then out else if i=1 then out++flat a else (out++flat a)++flat b)) 2 (fun i hi=>by
    have:i=0\/i=1:=by omega
    rcases this with rfl | rfl
    ·unfold bp
     simp only
     rw[if_pos (by simp),az (by omega) (by simp),zJ];simp only[ae,if_true]
     rw[iha n _ (by omega) (by omega)];rfl
    ·unfold bp
     simp only
     rw[if_pos (by simp),az (by omega) (by simp),OQ];simp only[ae,if_true]
     rw[ihb n _ (by omega) (by simp;omega)];rfl) (by unfold bp;simp) (by unfold aT;omega)
   rw[ai hL]
   simp only
   rw[aH (by simp;omega)];simp
theorem JZ {x:Tr Tok} (h:WT x): ∀n,(flat x).length<=n->(flat x).length<=1000000->szX x<=50000->dz n (flat x)=some (flat (ry x)):=by
 have hF:=pf
 refine WT.ind (p:=fun x=> ∀n,(flat x).length<=n->(flat x).length<=1000000->szX x<=50000->dz n (flat x)=some (flat (ry x))) ?_ ?_ ?_ h
 ·intro t e n hn hl hs
  rw[Bz] at hn hl⊢
  match n,hn with
  | n+1,_ =>
   have hk:=X7 e
   rw[dz]
   have:=(kG (A:=[]) (t:=t) (by simp)).1
   rw[List.nil_append] at this
   rw[this];simp only[ae]
   rw[RY (.inr e)];simp only[ae,hk.1,hk.2,Bool.false_eq_true,if_false]
   rw[Zi (no7 (.inr e)),Bz]
 ·intro t a e wa ih n hn hl hs
  have hs':min ((1:Int)+(if t.1=7 then (szX a+3)*t.2.2.2 else szX a)) 100000<=50000:=hs
  rw[Cz] at hn hl⊢
  simp only[aj,au,ax] at hn hl
  match n,hn with
  | n+1,hn =>
   have hr:=fD wa
   have hsa:szX a<=50000:=by
    by_cases k:t.1=7
    ·rw[if_pos k] at hs'
     have h7:=By (show 0<=ar t by omega) k
     have hge:szX a+3<=(szX a+3)*t.2.2.2:=by
      have:=Int.mul_le_mul_of_nonneg_left (c:=szX a+3) h7.2.1 (by omega)
      omega
     omega
    ·rw[if_neg k] at hs';omega
   have hla:=BC wa (by omega)
   rw[dz]
   obtain ⟨l1,l2⟩:=kG (A:=flat a) (t:=t) (by omega)
   rw[l1];simp only[ae]
   rw[RY (.inl e)];simp only[ae,Bool.false_eq_true,if_false]
   rw[l2,Int.toNat_natCast,List.take_left,jF (by simp only[aj,au,ax];omega)];simp only[ae]
   rw[ih n (by omega) (by omega) hsa,Zh];simp only[ae]
   rcases OR e with ⟨k1,k2⟩ | ⟨k1,k2,k3⟩
   ·rw[if_pos k1,if_neg (by omega),BD (by simp;omega),Cz];simp
   ·have h7:=By (show 0<=ar t by omega) k3
    rw[if_neg (by simp[k1]),if_pos k2,if_pos k3]
    have:=OT (x:=ry a) t.2.2.2.toNat fJ t.2.2.1 (by omega) (by omega) (by omega) (by omega) (by omega)
    rw[Int.toNat_of_nonneg (by omega)] at this
    rw[this];rfl
 ·intro t a b e wa wb iha ihb n hn hl hs
  have k:=no7 (.inl e)
  have hs':min ((1:Int)+(if t.1=7 then (szX a+3)*t.2.2.2 else szX a)+(if t.1=7 then (szX b+3)*t.2.2.2 else szX b)) 100000<=50000:=hs
  rw[if_neg k,if_neg k] at hs'
  rw[ue] at hn hl⊢
  obtain ⟨p1,p2,p3,p4⟩:=xb (a:=a) (t:=t) wb hl
  simp only[aj,au,ax] at hn hl
  match n,hn with
  | n+1,hn =>
   have hra:=fD wa
   have hrb:=fD wb
   have hla:=BC wa (by omega)
   have hlb:=BC wb (by omega)
   rw[dz]
   obtain ⟨l1,l2⟩:=kG (A:=flat a++flat b) (t:=t) (by rw[aj];omega)
   rw[l1];simp only[ae]
   rw[aaJ e];simp only[ae,if_true]
   rw[l2,p1,p2,jF (by simp only[aj,au,ax];omega)];simp only[ae]
   rw[jF (by simp only[aj,au,ax];omega),p3,p4];simp only[ae]
   rw[iha n (by omega) (by omega) (by omega),jF (by simp only[aj,au,ax];omega)];simp only[ae]
   rw[ihb n (by have:=wa.pos;omega) (by omega) (by omega)];simp only[ae]
   rw[BD (by omega),exp2 k,ue];rfl
def B1 (e:List Tok):List Tok×Bool:=
 if decide (e.length<=24)&&isX e then (if 5000<szX (zp e) then ([],false) else (if 400<(flat (ry (zp e))).length then ([],false) else (flat (ry (zp e)),true))) else ([],false)
theorem Ix {e:List Tok} (he:e.length<=1048576):iH e=some (B1 e)/\mT e=some (B1 e):=by
 have hF:=pf
 unfold iH mT B1
 rw[BB he,Iu he];simp only[ae]
 by_cases c:(decide (e.length<=24)&&isX e)=true
 ·rw[if_pos c,if_pos c,if_pos c,EA he];simp only[ae]
  rw[ak] at c
  obtain ⟨x,h1,hw,rfl⟩:=JY c.2
  have h24:(flat x).length<=24:=by simpa using c.1
  have hr:=fD hw
  rw[tU hw,Tw hw fJ (by omega) (by omega),V3 hw fJ (by omega)];simp only[ae]
  by_cases c2:5000<szX x
  ·have c2':decide (szX x>5000)=true:=by simpa using c2
   simp only[gt_iff_lt,c2,decide_true,if_true,and_self]
  ·have c2':decide (szX x>5000)=false:=by simpa using c2
   simp only[gt_iff_lt,c2,decide_false,if_false,Bool.false_eq_true]
   have hl:=BC hw (by omega)
   rw[JZ hw fJ (by omega) (by omega) (by omega),R0 hw fJ (by omega)];simp only[ae]
   unfold ri
   rw[OU (Tx hw) fJ [] (by omega) (by simp;omega)];simp only[ae,List.nil_append]
   by_cases c3:400<(flat (ry x)).length
   ·have c3':decide (((flat (ry x)).length:Int)>400)=true:=decide_eq_true (by omega)
    simp only[c3',c3,decide_true,if_true,and_self]
   ·have c3':decide (((flat (ry x)).length:Int)>400)=false:=decide_eq_false (by omega)
    simp only[c3',c3,decide_false,if_false,Bool.false_eq_true,and_self]
 ·rw[if_neg c,if_neg c,if_neg c];exact ⟨rfl,rfl⟩
theorem OV {e:List Tok} (h:(B1 e).2=true): ∃y,WT y/\(B1 e).1=flat y/\(flat y).length<=400:=by
 unfold B1 at h⊢
 split at h
 ·rename_i c
  rw[if_pos c]
  rw[ak] at c
  obtain ⟨x,h1,hw,rfl⟩:=JY c.2
  rw[tU hw] at h⊢
  split at h
  ·cases h
  ·rename_i c2
   rw[if_neg c2]
   split at h
   ·cases h
   ·rename_i c3
    rw[if_neg c3]
    exact ⟨_,Tx hw,rfl,by omega⟩
 ·cases h
end D
namespace D
open Go.RowKit
def OW (out:List Bool) (t:Int):Bool:=decide (t≥0)&&nth out t
def hit (out:List Bool) (row:List Int):Bool:=row.any (OW out)
def yY (a:AutT) (out:List Bool) (s:Nat):List Bool:=if hit out (nth a.2.2 s) then out.set s true else out
def lg (a:AutT) (out:List Bool):Nat->List Bool
 | 0=>out
 | s+1=>yY a (lg a out s) s
def cnt (out:List Bool):Nat:=out.count true
theorem X8 (out:List Bool):cnt out<=out.length:=List.count_le_length
theorem J4 {out:List Bool} {s:Nat} (h:s<out.length) (k:out[s] =true):out.set s true=out:=by
 refine List.ext_getElem (by simp) fun i h1 h2=>?_
 rw[List.getElem_set]
 split
 ·rename_i e;subst e;exact k.symm
 ·rfl
theorem V4 {out:List Bool} {s:Nat} (h:s<out.length) (k:out[s] =false):cnt (out.set s true)=cnt out+1:=by
 unfold cnt
 rw[List.count_set h];simp[k]
section
variable {a:AutT} {n:Nat}
theorem EC (a:AutT) (out:List Bool) (s:Nat):(yY a out s).length=out.length:=by unfold yY;split <;> simp
theorem l7 (a:AutT) (out:List Bool): ∀s,(lg a out s).length=out.length
 | 0=>rfl
 | s+1=>by rw[lg,EC,l7 a out s]
theorem yZ {out:List Bool} {s:Nat} (h:s<out.length):(yY a out s=out/\ ¬(hit out (nth a.2.2 s)=true/\nth out s=false))\/(cnt (yY a out s)=cnt out+1/\hit out (nth a.2.2 s)=true/\nth out s=false):=by
 unfold yY
 rw[cw h]
 cases hh:hit out (nth a.2.2 s) with
 | false=>exact .inl ⟨by simp,by simp⟩
 | true =>
  cases hk:out[s] with
  | true=>exact .inl ⟨by simp[J4 h hk],by simp⟩
  | false=>exact .inr ⟨by simp[V4 h hk],rfl,rfl⟩
theorem yn {out:List Bool} : ∀s,s<=out.length->(lg a out s=out/\cnt (lg a out s)=cnt out)\/cnt out<cnt (lg a out s)
 | 0,_=>.inl ⟨rfl,rfl⟩
 | s+1,hs=>by
  have hl:s<(lg a out s).length:=by rw[l7];omega
  have ih:=yn (out:=out) s (by omega)
  rw[lg]
  rcases yZ (a:=a) hl with ⟨e,-⟩ | ⟨e,-,-⟩
  ·rw[e];exact ih
  ·rcases ih with ⟨-,h2⟩ | h
   ·exact .inr (by omega)
   ·exact .inr (by omega)
def it (a:AutT):Nat->List Bool
 | 0=>a.2.1
 | j+1=>lg a (it a j) a.2.1.length
theorem qQ (a:AutT): ∀j,(it a j).length=a.2.1.length
 | 0=>rfl
 | j+1=>by rw[it,l7,qQ a j]
theorem Tz (a:AutT) (j:Nat):cnt (it a j)<=a.2.1.length:=by rw[<-qQ a j];exact X8 _
theorem Iy (a:AutT) (j:Nat):(it a (j+1)=it a j)\/cnt (it a j)<cnt (it a (j+1)):=by
 rcases yn (a:=a) (out:=it a j) a.2.1.length (by rw[qQ];exact aG _) with h | h
 ·exact .inl h.1
 ·exact .inr h
theorem TA {j k:Nat} (h:it a (j+1)=it a j) (hk:j<=k):it a k=it a j:=by
 induction hk with
 | refl=>rfl
 | step _ ih=>rw[it,ih];exact h
theorem OX {j k:Nat} (h:it a (j+1)=it a j) (h':it a (k+1)=it a k):it a j=it a k:=by
 rcases Nat.le_total j k with e | e
 ·exact (TA h e).symm
 ·exact TA h' e
theorem V5 (a : AutT) : it a (a.2.1.length + 1) = it a a.2.1.length := by
  have key : ∀ j, it a (j + 1) = it a j \/ j + 1 <= cnt (it a (j + 1)) := by
    intro j
    induction j with
    | zero => rcases Iy a 0 with h | h
              · exact .inl h
              · exact .inr (by omega)
    | succ j ih =>
      rcases Iy a (j + 1) with h | h
      · exact .inl h
      · rcases ih with h' | h'
        · left; rw [it, h']; exact h'
        · exact .inr (by omega)
  rcases key a.2.1.length with h | h
  · exact h
  · have := Tz a (a.2.1.length + 1); omega
def live (a:AutT):List Bool:=it a a.2.1.length
theorem vE (a:AutT):(live a).length=a.2.1.length:=qQ a _
theorem J5 {α:Type} [Inhabited α] {row:List α} {p:α->Bool} {k:Nat} (h:k<row.length):(row.take (k+1)).any p=((row.take k).any p || p (nth row (k:Int))):=by
 rw[List.take_succ_eq_append_getElem h,List.any_append,cw h];simp
section
variable (V:VA a n) (hn:n<=1000000)
include V hn
theorem OY {out:List Bool} {s:Nat} (hs:s<n) (hl:out.length=n):aA (j6 a (out,(s:Int))) aT (out,0)=some (.brk (yY a out s,9)):=by
 have hr:=V.rowAt (s:=s) (by omega) (by omega)
 have hls:s<out.length:=by omega
 have:=aU (f:=j6 a (out,(s:Int))) (fun k=>(if ((nth a.2.2 (s:Int)).take k).any (OW out) then out.set s true else out,(k:Int))) 9 (fun k hk=>by
  unfold j6
  simp only
  rw[if_pos (by simp;omega),V.get (by omega) (by omega)];simp only[ae]
  rw[V.get2 (by omega) (by omega) hk];simp only[ae]
  rw[J5 (by omega),show nth (nth a.2.2 (s:Int)) (k:Int)=mv a s k from rfl]
  simp only[ah (show k<9223372036854775807 by omega)]
  by_cases c:mv a s k≥0
  ·have hset:(out.set s true).length=n:=by simp[hl]
   have hm:=(V.mv (s:=s) (k:=k) (by omega) (by omega) hk).2
   rw[if_pos (by simpa using c)]
   by_cases q:((nth a.2.2 (s:Int)).take k).any (OW out)=true
   ·simp only[q,if_true,Bool.true_or]
    rw[az c (by rw[hset];exact hm),az (by omega) (by rw[hset];omega)];simp only[ae,Int.toNat_natCast]
    split <;> simp
   ·simp only[q,Bool.false_eq_true,if_false,Bool.false_or,OW]
    rw[az c (by rw[hl];exact hm),az (by omega) (by rw[hl];omega)];simp only[ae,Int.toNat_natCast]
    cases hc:nth out (mv a s k) <;> simp[hc,c]
  ·rw[if_neg (by simpa using c)]
   simp[OW,c]) (by unfold j6;simp) (by unfold aT;omega)
 have e9:(nth a.2.2 (s:Int)).take 9=nth a.2.2 (s:Int):=List.take_of_length_le (by omega)
 rw[e9] at this
 exact this
theorem GN {out:List Bool} (hl:out.length=n):aA (j7 a) aT (out,0)=some (.brk (lg a out n,(n:Int))):=by
 have hlen:=V.len
 refine aU (f:=j7 a) (fun s=>(lg a out s,(s:Int))) n (fun s hs=>?_) ?_ (lu (by omega))
 ·unfold j7
  simp only
  rw[if_pos (by simp;omega),ai (OY V hn hs (by rw[l7];exact hl)),ah (by omega)]
  rfl
 ·unfold j7
  simp only
  rw[if_neg (by simp;omega)]
theorem TC:mo a=some (live a):=by
 have hlen:=V.len
 unfold mo
 rw[aH (by simp;omega)];simp only[ae,List.nil_append]
 have:=aU (f:=mN a) (fun j=>(it a j,(j:Int))) n (fun j hj=>by
  unfold mN
  simp only
  rw[if_pos (by simp;omega),ai (GN V hn (by rw[qQ];exact hlen)),ah (by omega),it,hlen]) (by
  unfold mN
  simp only
  rw[if_neg (by simp;omega)]) (lu (by omega))
 exact (ai this).trans (by simp[live,hlen])
theorem OZ {out:List Bool} {g:Bool} {s:Nat} (hs:s<n) (hl:out.length=n):aA (eH (g,(s:Int),out) (nth a.2.2 (s:Int))) aT (g,0,out)=some (.brk (g || (hit out (nth a.2.2 (s:Int)) && !nth out (s:Int)),9,yY a out s)):=by
 have hr:=V.rowAt (s:=s) (by omega) (by omega)
 have hls:s<out.length:=by omega
 have:=aU (f:=eH (g,(s:Int),out) (nth a.2.2 (s:Int))) (fun k=>(g || (((nth a.2.2 (s:Int)).take k).any (OW out) && !nth out (s:Int)),(k:Int),if ((nth a.2.2 (s:Int)).take k).any (OW out) then out.set s true else out)) 9 (fun k hk=>by
  unfold eH
  simp only
  rw[if_pos (by simp[hr];omega),V.get2 (by omega) (by omega) hk];simp only[ae]
  rw[J5 (by omega),show nth (nth a.2.2 (s:Int)) (k:Int)=mv a s k from rfl]
  simp only[ah (show k<9223372036854775807 by omega)]
  by_cases c:mv a s k≥0
  ·have hset:(out.set s true).length=n:=by simp[hl]
   have hm:=(V.mv (s:=s) (k:=k) (by omega) (by omega) hk).2
   rw[if_pos (by simpa using c)]
   by_cases q:((nth a.2.2 (s:Int)).take k).any (OW out)=true
   ·simp only[q,if_true,Bool.true_or]
    have hself:nth (out.set s true) (s:Int)=true:=by
     have:=pO (xs:=out) (i:=(s:Int)) (x:=true) (by omega) (by omega)
     simpa using this
    rw[az c (by rw[hset];exact hm),az (by omega) (by rw[hset];omega)];simp only[ae,Int.toNat_natCast,hself,if_true]
    split <;> simp
   ·simp only[q,Bool.false_eq_true,if_false,Bool.false_or,OW,Bool.false_and,Bool.or_false]
    rw[az c (by rw[hl];exact hm),az (by omega) (by rw[hl];omega)];simp only[ae,Int.toNat_natCast]
    cases hc:nth out (mv a s k) with
    | false=>simp[c]
    | true =>
     cases hd:nth out (s:Int) with
     | false=>simp[c]
     | true =>
      rw[cw hls] at hd
      simp[c,J4 hls hd]
  ·rw[if_neg (by simpa using c)]
   simp[OW,c]) (by unfold eH;simp[hr]) (by unfold aT;omega)
 have e9:(nth a.2.2 (s:Int)).take 9=nth a.2.2 (s:Int):=List.take_of_length_le (by omega)
 rw[e9] at this
 have e0:(g || (((nth a.2.2 (s:Int)).take 0).any (OW out) && !nth out (s:Int)))=g:=by simp
 rw[e0] at this
 exact this
theorem GO {out:List Bool} (hl:out.length=n): ∃g,aA (eI a) aT (false,0,out)=some (.brk (g,(n:Int),lg a out n))/\(g=true↔cnt out<cnt (lg a out n)):=by
 have hlen:=V.len
 have hnl:=V.nlen
 obtain ⟨s',e,⟨g,rfl,hg⟩⟩:=dO (f:=eI a) (fun s st=> ∃g,st=(g,(s:Int),lg a out s)/\(g=true↔cnt out<cnt (lg a out s))) n (by
  rintro s st hs ⟨g,rfl,hg⟩
  have hpl:(lg a out s).length=n:=by rw[l7];exact hl
  unfold eI
  simp only
  rw[if_pos (by simp;omega),V.get (by omega) (by omega)];simp only[ae]
  rw[ai (OZ V hn hs hpl),ah (by omega)]
  refine ⟨_,rfl,_,rfl,?_⟩
  rw[Bool.or_eq_true,ak,Bool.not_eq_true',hg,lg]
  have hc:=yn (a:=a) (out:=out) s (by omega)
  rcases yZ (a:=a) (out:=lg a out s) (s:=s) (by omega) with ⟨e,k⟩ | ⟨e,k⟩
  ·rw[e];exact ⟨fun h=>h.elim id fun h=>absurd h k,.inl⟩
  ·rw[e]
   exact ⟨fun _=>by rcases hc with ⟨-,h⟩ | h <;> omega,fun _=>.inr k⟩) (by
  rintro s ⟨g,rfl,hg⟩
  unfold eI
  simp only
  rw[if_neg (by simp;omega)]) ⟨false,rfl,by simp[lg]⟩ (lu (by omega))
 exact ⟨g,e,hg⟩
theorem X9:fX a=some (live a):=by
 have hlen:=V.len
 unfold fX
 rw[aH (by simp;omega)];simp only[ae,List.nil_append]
 obtain ⟨o,e,i,rfl,hi⟩:=cz (f:=jw a) (fun i s=> ∃b,s=(b,it a i)/\(b=true->i<=cnt (it a i))/\(b=false->it a (i+1)=it a i)) (fun o=> ∃i,o= .brk (false,it a i)/\it a (i+1)=it a i) (n+1) (s:=(true,a.2.1)) (by
  rintro i s hi ⟨b,rfl,h1,h2⟩
  unfold jw
  simp only
  cases b with
  | false=>exact .inr ⟨_,by rw[if_neg (by simp)],(fun s' e=>by cases e),i,rfl,h2 rfl⟩
  | true =>
   have hc:=Tz a i
   have h1:=h1 rfl
   obtain ⟨g,e,hg⟩:=GO V hn (out:=it a i) (by rw[qQ];exact hlen)
   have ee:lg a (it a i) n=it a (i+1):=by rw[it,hlen]
   rw[ee] at e hg
   refine .inl ⟨by omega,(g,it a (i+1)),by rw[if_pos rfl,ai e],g,rfl,fun h=>?_,fun h=>?_⟩
   ·have:=hg.1 h;omega
   ·have hs:it a (i+1)=it a i:=by
     rcases Iy a i with h' | h'
     ·exact h'
     ·rw[<-hg,h] at h';cases h'
    rw[it,hs];exact hs) ⟨true,rfl,fun _=>Nat.zero_le _,fun h=>by cases h⟩ (lu (by omega))
 rw[ai e]
 have:=OX hi (V5 a)
 simp[live,this]
end
end
end D
namespace D
open Go.RowKit
def nothing:AutT:=(0,[false],[[-1,-1,-1,-1,-1,-1,-1,-1,-1]])
theorem O0:pX=some nothing:=by kernel_rfl
theorem O1:ve=some nothing:=by kernel_rfl
theorem O2 {n:Nat} (h:n<=1000000):iOk (n:Int)=true:=by
 have h1:i64.min= -9223372036854775808:=by decide
 have h2:i64.max=9223372036854775807:=by decide
 simp only[iOk,Lit.wf,h1,h2,ak,decide_eq_true_eq]
 omega
theorem take_one {α:Type} [Inhabited α] {xs:List α} {k:Nat} (h:k<xs.length):xs.take (k+1)=xs.take k++ [nth xs (k:Int)]:=by
 rw[List.take_succ_eq_append_getElem h,cw h]
theorem lh {α:Type} [Inhabited α] {xs ys:List α} (h:xs <+:ys) {i:Int} (h0:0<=i) (h1:i<xs.length):nth ys i=nth xs i:=by
 obtain ⟨t,rfl⟩:=h
 exact pd h0 h1
structure NumOk {κ:Type} [DecidableEq κ] (nx:κ->List (Option κ)) (first:κ) (G:κ->Prop) (B:Nat):Prop where
 g0:G first
 gn: ∀x,G x-> ∀y,some y∈nx x->G y
 len: ∀x,G x->(nx x).length=9
 bound: ∀l:List κ,l.Nodup->(∀x∈l,G x)->l.length<=B
section
variable {κ:Type} [DecidableEq κ] [Inhabited κ] {nx:κ->List (Option κ)} {first:κ} {G:κ->Prop} {B:Nat}
theorem NumOk.le (H:NumOk nx first G B) (i:Nat):(bfS nx first i).length<=B:=H.bound _ (pe i) (l6 H.g0 H.gn i)
theorem NumOk.at (H:NumOk nx first G B) {i:Nat} (h:i<(bfS nx first i).length):G (nth (bfS nx first i) (i:Int)):=l6 H.g0 H.gn i _ (bI (by omega) (by omega))
theorem l9 {i:Nat} (h:i<(bfS nx first i).length):bfS nx first (i+1)=nbS (bfS nx first i) (nx (nth (bfS nx first i) (i:Int))):=by rw[Ex h,cw h]
theorem xd {i:Nat} (h:i<(bfS nx first i).length):bfR nx first (i+1)=bfR nx first i++ [nbR (bfS nx first i) (nx (nth (bfS nx first i) (i:Int)))]:=by rw[w8 h,cw h]
theorem zK {β:Type} {acc:κ->β} {i:Nat} (h:i<(bfS nx first i).length):((bfS nx first (i+1)).take (i+1)).map acc=((bfS nx first i).take i).map acc++ [acc (nth (bfS nx first i) (i:Int))]:=by
 have hp:=b9 (nx:=nx) (first:=first) i
 have hl:=hp.length_le
 have e:(bfS nx first (i+1)).take i=(bfS nx first i).take i:=by
  obtain ⟨t,ht⟩:=hp
  rw[<-ht,List.take_append_of_le_length (by omega)]
 rw[take_one (by omega),aN,e,lh hp (by omega) (by omega)];rfl
def MapOf (M:List (κ×Int)) (l:List κ):Prop:=M.length=l.length/\ ∀x,M.lookup x=if x∈l then some (l.idxOf x:Int) else none
theorem MapOf.one (x:κ):MapOf [(x,0)] [x]:=by
 refine ⟨rfl,fun y=>?_⟩
 rw[List.lookup_cons]
 by_cases e:y=x
 ·subst e;simp
 ·simp only[show (y==x)=false from by simp[e]];simp[e]
theorem MapOf.put {M:List (κ×Int)} {l:List κ} (h:MapOf M l) {x:κ} (hx:x∉l):MapOf ((x,(l.length:Int))::M) (l++ [x]):=by
 refine ⟨by simp[h.1],fun y=>?_⟩
 rw[List.lookup_cons]
 by_cases e:y=x
 ·subst e
  simp[List.idxOf_append,hx]
 ·simp only[show (y==x)=false from by simp[e],h.2 y,List.mem_append,List.mem_singleton,e,or_false]
  by_cases k:y∈l
  ·simp[k,List.idxOf_append]
  ·simp[k]
end
section
variable {nx:Int->List (Option Int)} {first:Int} {G:Int->Prop} {B:Nat}
theorem GP {p3:Int->Int->Option (Int×Bool)} {l:List Int} {M:List (Int×Int)} {os:List (Option Int)} {acs:List Bool} {rws:List (List Int)} {i:Nat}
  (hi:i<l.length) (hos:os.length=9) (hM:MapOf M l) (hok: ∀y,some y∈os->iOk y=true) (hB: ∀k,(nbS l (os.take k)).length<=1000000)
  (hp: ∀(k:Nat) (hk:k<9),∃j,p3 (nth l (i:Int)) (k:Int)=some (match nth os (k:Int) with | some y=>(y,true) | none=>(j,false))) :
  ∃M',aA (fw p3 (l,M,(i:Int),0,acs,rws)) aT (l,M,[],0)=some (.brk (nbS l os,M',nbR l os,9))/\MapOf M' (nbS l os):=by
 obtain ⟨s',e,M',rfl,hM'⟩:=dO (f:=fw p3 (l,M,(i:Int),0,acs,rws)) (fun k s=> ∃M',s=(nbS l (os.take k),M',nbR l (os.take k),(k:Int))/\MapOf M' (nbS l (os.take k))) 9 (by
  rintro k s hk ⟨M1,rfl,hM1⟩
  have hpre:=mG l (os.take k)
  have hlen:=hpre.length_le
  have hBk:=hB k
  obtain ⟨j,hj⟩:=hp k hk
  have hrl:(nbR l (os.take k)).length<=9:=by rw[fU,aB];omega
  unfold fw
  simp only
  rw[if_pos (by simp;omega),az (by omega) (by omega)];simp only[ae]
  rw[lh hpre (by omega) (by omega),hj,take_one (by omega),w7,tT]
  simp only[ae,ah (show k<9223372036854775807 by omega)]
  cases ho:nth os (k:Int) with
  | none =>
   simp only[Bool.false_eq_true,if_false]
   rw[aH (by simp;omega)]
   exact ⟨_,rfl,M1,rfl,hM1⟩
  | some y =>
   have hy:iOk y=true:=hok y (ho ▸ bI (by omega) (by omega))
   simp only[if_true]
   rw[show chk (iOk y=true)=some () from by unfold chk;rw[if_pos hy]];simp only[ae]
   rw[show lkM M1 y=_ from hM1.2 y]
   by_cases c:y∈nbS l (os.take k)
   ·simp only[c,if_true,Option.isSome_some,Option.getD_some,ae]
    rw[aH (by simp;omega)]
    exact ⟨_,rfl,M1,by rw[nH c];rfl,by rw[nH c];exact hM1⟩
   ·have hput:Mq M1 iOk iOk y ((nbS l (os.take k)).length:Int)=some ((y,((nbS l (os.take k)).length:Int))::M1):=by
     unfold Mq
     rw[if_pos ⟨by have:=hM1.1;omega,hy,O2 hBk⟩]
    simp only[c,if_false,Option.isSome_none,Bool.false_eq_true,hput,ae]
    rw[aH (by simp;omega)];simp only[ae]
    rw[aH (by simp;omega)]
    refine ⟨_,rfl,(y,((nbS l (os.take k)).length:Int))::M1,?_,?_⟩
    ·rw[mH c];simp only[nbI,qN c]
    ·rw[mH c];exact hM1.put c) (by
  rintro s ⟨M1,rfl,hM1⟩
  unfold fw
  simp) (s:=(l,M,[],0)) ⟨M,rfl,hM⟩ (by unfold aT;omega)
 rw[List.take_of_length_le (by omega)] at e hM'
 exact ⟨M',e,hM'⟩
theorem Ya {most:Int} {p2:Int->Option Bool} {p3:Int->Int->Option (Int×Bool)} {acc:Int->Bool} (H:NumOk nx first G B) (hB:B<=1000000) (hmost:(B:Int)<=most) (hok: ∀x,G x->iOk x=true)
  (h2: ∀x,G x->p2 x=some (acc x)) (h3: ∀x (k:Nat),G x->k<9-> ∃j,p3 x (k:Int)=some (match nth (nx x) (k:Int) with | some y=>(y,true) | none=>(j,false))) :
  ∃N,bfE nx first N/\fQ first most p2 p3=some ((0,(bfS nx first N).map acc,bfR nx first N),true):=by
 obtain ⟨N,hNB,hN⟩:=Tu (nx:=nx) (first:=first) (H.le)
 refine ⟨N,hN,?_⟩
 unfold fQ
 rw[show Mq ([] :List (Int×Int)) iOk iOk first 0=some [(first,0)] from by unfold Mq;rw[if_pos ⟨by simp,hok _ H.g0,by decide⟩]];simp only[ae]
 obtain ⟨s',e,M',rfl,hM'⟩:=dO (f:=cJ most p2 p3) (fun i s=> ∃M,s=(bfS nx first i,M,(i:Int),0,((bfS nx first i).take i).map acc,bfR nx first i)/\MapOf M (bfS nx first i)) N (by
  rintro i s hi ⟨M,rfl,hM⟩
  have hlt:=hN.2 i hi
  have hG:=H.at hlt
  have hle:=H.le i
  have hle':=H.le (i+1)
  obtain ⟨M',e,hM'⟩:=GP (p3:=p3) (l:=bfS nx first i) (M:=M) (os:=nx (nth (bfS nx first i) (i:Int))) (acs:=((bfS nx first i).take i).map acc) (rws:=bfR nx first i) hlt (H.len _ hG) hM (fun y hy=>hok y (H.gn _ hG y hy))
   (fun k=>by
    have:(nbS (bfS nx first i) ((nx (nth (bfS nx first i) (i:Int))).take k)).length<=B:=H.bound _ (ta (pe i)) fun x hx=>by
     rcases yj.1 hx with hx | hx
     ·exact l6 H.g0 H.gn i x hx
     ·exact H.gn _ hG x (List.mem_of_mem_take hx)
    omega) (fun k hk=>h3 _ k hG hk)
  unfold cJ
  simp only
  rw[if_pos (by simp;omega),ai e,<-l9 hlt]
  rw[<-l9 hlt] at hM'
  have hl2:=(b9 (nx:=nx) (first:=first) i).length_le
  simp only
  rw[if_neg (by simp;omega),az (by omega) (by omega)];simp only[ae]
  rw[lh (b9 i) (by omega) (by omega),h2 _ hG];simp only[ae]
  have hr:(bfR nx first i).length=i:=lf fun j hj=>hN.2 j (by omega)
  rw[aH (by simp;omega)];simp only[ae]
  rw[aH (by simp;omega)];simp only[ae,ah (show i<9223372036854775807 by omega)]
  exact ⟨_,rfl,M',by rw[zK hlt,xd hlt],hM'⟩) (by
  rintro s ⟨M,rfl,hM⟩
  unfold cJ
  simp only
  rw[if_neg (by have:=hN.1;simp;omega)]) (s:=([first],[(first,0)],0,0,[],[])) ⟨_,rfl,MapOf.one first⟩ (lu (by omega))
 rw[ai e]
 simp only
 rw[List.take_of_length_le (by have:=hN.1;omega)]
end
theorem TE {l:List Int} {x:Int} (h:l.length<=9223372036854775807):oK l x=some (if x∈l then (l.idxOf x:Int) else -1):=by
 unfold oK
 obtain ⟨o,e,hq⟩:=cz (f:=pW l x) (fun i s=>s=(i:Int)/\x∉l.take i) (fun o=>(x∈l/\o= .ret (l.idxOf x:Int))\/(x∉l/\ ∃s,o= .brk s)) l.length (s:=0) (by
  rintro i s hi ⟨rfl,hx⟩
  unfold pW
  by_cases hl:i<l.length
  ·rw[if_pos (by simp;omega),az (by omega) (by omega)];simp only[ae]
   by_cases c:nth l (i:Int)=x
   ·refine .inr ⟨_,by rw[if_pos (by simpa using c)],(fun s' e=>by cases e),.inl ?_⟩
    have e:l=l.take i++(x::l.drop (i+1)):=by
     rw[<-c,cw hl,<-List.drop_eq_getElem_cons hl,List.take_append_drop]
    refine ⟨by rw[e];simp,?_⟩
    congr 1
    conv=>rhs;rw[e,List.idxOf_append,if_neg hx,List.idxOf_cons_self]
    simp[aB];first | done | omega
   ·refine .inl ⟨hl,_,by rw[if_neg (by simpa using c)],by rw[ah (by omega)],?_⟩
    rw[take_one hl,List.mem_append,List.mem_singleton]
    rintro (h | h)
    ·exact hx h
    ·exact c h.symm
  ·refine .inr ⟨_,by rw[if_neg (by simp;omega)],(fun s' e=>by cases e),.inr ⟨?_,_,rfl⟩⟩
   rwa [List.take_of_length_le (by omega)] at hx) ⟨rfl,by simp⟩ (lu h)
 rcases hq with ⟨hx,rfl⟩ | ⟨hx,s,rfl⟩
 ·rw[bs e,if_pos hx]
 ·rw[ai e,if_neg hx]
section
variable {a:AutT} {n:Nat} {c:List Int} {lv:List Bool} {nx:Int->List (Option Int)} {G:Int->Prop} {B:Nat} {acc:Int->Bool}
def good (n:Nat) (lv:List Bool) (r:Int):Prop:=0<=r/\r<n/\nth lv r=true
def vF (a:AutT) (c:List Int) (lv:List Bool) (r:Int):List (Option Int):=(List.range 9).map fun k=>if mv a r k≥0/\nth lv (mv a r k)=true then some (nth c (mv a r k)) else none
theorem J6 {r:Int} {k:Nat} (hk:k<9):nth (vF a c lv r) (k:Int)=if mv a r k≥0/\nth lv (mv a r k)=true then some (nth c (mv a r k)) else none:=by
 have:k<(vF a c lv r).length:=by simp[vF];omega
 rw[cw this];simp[vF]
def RepsOf (n:Nat) (lv:List Bool) (c:List Int) (rs l:List Int):Prop:=rs.length=l.length/\ ∀j:Nat,j<l.length->good n lv (nth rs j)/\nth c (nth rs j)=nth l (j:Int)
theorem RepsOf.snoc {rs l:List Int} (h:RepsOf n lv c rs l) {t:Int} (ht:good n lv t):RepsOf n lv c (rs++ [t]) (l++ [nth c t]):=by
 refine ⟨by simp[h.1],fun j hj=>?_⟩
 by_cases e:j<l.length
 ·rw[pd (by omega) (by have:=h.1;omega),pd (by omega) (by omega)];exact h.2 j e
 ·have e:j=l.length:=by simp at hj;omega
  subst e
  have h1:nth (rs++ [t]) (l.length:Int)=t:=by rw[cw (by simp[h.1])];simp[<-h.1]
  have h2:nth (l++ [nth c t]) (l.length:Int)=nth c t:=by rw[cw (by simp)];simp
  rw[h1,h2];exact ⟨ht,rfl⟩
theorem O3 (V:VA a n) (hn:n<=1000000) (hc:c.length=n) (hlv:lv.length=n) {l rs:List Int} {acs:List Bool} {rws:List (List Int)} {i:Nat} (hi:i<l.length) (hR:RepsOf n lv c rs l) {os:List (Option Int)} (hos:os.length=9)
  (ho: ∀r,good n lv r->nth c r=nth l (i:Int)->vF a c lv r=os) (hB: ∀k,(nbS l (os.take k)).length<=1000000) :
  ∃rs',aA (iA a c lv (l,rs,(i:Int),0,acs,rws)) aT (l,rs,[],0)=some (.brk (nbS l os,rs',nbR l os,9))/\RepsOf n lv c rs' (nbS l os):=by
 obtain ⟨s',e,rs',rfl,hR'⟩:=dO (f:=iA a c lv (l,rs,(i:Int),0,acs,rws)) (fun k s=> ∃rs',s=(nbS l (os.take k),rs',nbR l (os.take k),(k:Int))/\RepsOf n lv c rs' (nbS l (os.take k))) 9 (by
  rintro k s hk ⟨r1,rfl,hR1⟩
  have hpre:=mG l (os.take k)
  have hlen:=hpre.length_le
  have hBk:=hB k
  have hrl:(nbR l (os.take k)).length<=9:=by rw[fU,aB];omega
  have hr1:=hR1.1
  obtain ⟨⟨g0,g1,g2⟩,gc⟩:=hR1.2 i (by omega)
  rw[lh hpre (by omega) (by omega)] at gc
  have hsu:=ho _ ⟨g0,g1,g2⟩ gc
  have hok:nth os (k:Int)=if mv a (nth r1 (i:Int)) k≥0/\nth lv (mv a (nth r1 (i:Int)) k)=true then some (nth c (mv a (nth r1 (i:Int)) k)) else none:=by
   rw[<-hsu];exact J6 hk
  have hmv:=V.mv (s:=nth r1 (i:Int)) (k:=k) g0 g1 hk
  unfold iA
  simp only
  rw[if_pos (by simp;omega),az (xs:=r1) (by omega) (by omega)];simp only[ae]
  rw[V.get g0 g1];simp only[ae]
  rw[V.get2 g0 g1 hk,take_one (by omega),w7,tT]
  simp only[ae,ah (show k<9223372036854775807 by omega)]
  by_cases c1:mv a (nth r1 (i:Int)) k≥0
  ·rw[if_pos (by simpa using c1),az (xs:=lv) c1 (by omega)];simp only[ae]
   by_cases c2:nth lv (mv a (nth r1 (i:Int)) k)=true
   ·rw[if_pos ⟨c1,c2⟩] at hok
    rw[if_pos c2,az (xs:=c) c1 (by omega),hok];simp only[ae]
    rw[TE (by omega)];simp only[ae]
    by_cases c3:nth c (mv a (nth r1 (i:Int)) k)∈nbS l (os.take k)
    ·rw[if_pos c3,if_neg (by simp)];simp only[ae]
     rw[aH (by simp;omega)]
     exact ⟨_,rfl,r1,by rw[nH c3];rfl,by rw[nH c3];exact hR1⟩
    ·rw[if_neg c3,if_pos (by decide)]
     rw[aH (by simp;omega)];simp only[ae]
     rw[aH (by simp;omega)];simp only[ae]
     rw[aH (by simp;omega)];simp only[ae]
     refine ⟨_,rfl,r1++ [mv a (nth r1 (i:Int)) k],?_,?_⟩
     ·rw[mH c3];simp only[nbI,qN c3]
     ·rw[mH c3];exact hR1.snoc ⟨c1,hmv.2,c2⟩
   ·rw[if_neg (fun h=>c2 h.2)] at hok
    rw[if_neg c2,hok];simp only[ae]
    rw[aH (by simp;omega)]
    exact ⟨_,rfl,r1,rfl,hR1⟩
  ·rw[if_neg (fun h=>c1 h.1)] at hok
   rw[if_neg (by simpa using c1),hok];simp only[ae]
   rw[aH (by simp;omega)]
   exact ⟨_,rfl,r1,rfl,hR1⟩) (by
  rintro s ⟨r1,rfl,hR1⟩
  unfold iA
  simp) (s:=(l,rs,[],0)) ⟨rs,rfl,hR⟩ (by unfold aT;omega)
 rw[List.take_of_length_le (by omega)] at e hR'
 exact ⟨rs',e,hR'⟩
theorem Yb (V:VA a n) (hn:n<=1000000) (hc:c.length=n) (hlv:lv.length=n) (hs:nth lv a.1=true) (H:NumOk nx (nth c a.1) G B) (hB:B<=1000000)
  (hnx: ∀r,good n lv r->nx (nth c r)=vF a c lv r) (hacc: ∀r,good n lv r->acc (nth c r)=nth a.2.1 r) :
  ∃N,bfE nx (nth c a.1) N/\jL a c lv=some (0,(bfS nx (nth c a.1) N).map acc,bfR nx (nth c a.1) N):=by
 obtain ⟨N,hNB,hN⟩:=Tu (nx:=nx) (first:=nth c a.1) (H.le)
 refine ⟨N,hN,?_⟩
 have hst:=V.start
 have hlen:=V.len
 unfold jL
 rw[az hst.1 (by omega)];simp only[ae]
 rw[if_pos hs,az hst.1 (by omega)];simp only[ae]
 obtain ⟨s',e,rs,rfl,hR⟩:=dO (f:=ky a c lv) (fun i s=> ∃rs,s=(bfS nx (nth c a.1) i,rs,(i:Int),0,((bfS nx (nth c a.1) i).take i).map acc,bfR nx (nth c a.1) i)/\RepsOf n lv c rs (bfS nx (nth c a.1) i)) N (by
  rintro i s hi ⟨rs,rfl,hR⟩
  have hlt:=hN.2 i hi
  have hG:=H.at hlt
  have hle:=H.le i
  have hle':=H.le (i+1)
  obtain ⟨rs',e,hR'⟩:=O3 (acs:=((bfS nx (nth c a.1) i).take i).map acc) (rws:=bfR nx (nth c a.1) i) V hn hc hlv hlt hR (os:=nx (nth (bfS nx (nth c a.1) i) (i:Int))) (H.len _ hG) (fun r hr e=>by rw[<-hnx r hr,e]) (fun k=>by
    have:(nbS (bfS nx (nth c a.1) i) ((nx (nth (bfS nx (nth c a.1) i) (i:Int))).take k)).length<=B:=H.bound _ (ta (pe i)) fun x hx=>by
     rcases yj.1 hx with hx | hx
     ·exact l6 H.g0 H.gn i x hx
     ·exact H.gn _ hG x (List.mem_of_mem_take hx)
    omega)
  unfold ky
  simp only
  rw[if_pos (by simp;omega),ai e]
  rw[<-l9 hlt] at hR'
  have hl2:=(b9 (nx:=nx) (first:=nth c a.1) i).length_le
  have hr1:=hR'.1
  obtain ⟨⟨g0,g1,g2⟩,gc⟩:=hR'.2 i (by omega)
  rw[lh (b9 i) (by omega) (by omega)] at gc
  rw[az (xs:=rs') (by omega) (by omega)];simp only[ae]
  rw[V.acc g0 g1,<-hacc _ ⟨g0,g1,g2⟩,gc];simp only[ae]
  have hr:(bfR nx (nth c a.1) i).length=i:=lf fun j hj=>hN.2 j (by omega)
  rw[aH (by simp;omega)];simp only[ae]
  rw[aH (by simp;omega)];simp only[ae,ah (show i<9223372036854775807 by omega)]
  exact ⟨_,rfl,rs',by rw[<-l9 hlt,zK hlt,xd hlt],hR'⟩) (by
  rintro s ⟨rs,rfl,hR⟩
  unfold ky
  simp only
  rw[if_neg (by have:=hN.1;simp;omega)]) (s:=([nth c a.1],[a.1],0,0,[],[])) ⟨[a.1],rfl,rfl,fun j hj=>by
   obtain rfl:j=0:=by simpa [bfS] using hj
   exact ⟨⟨hst.1,hst.2,hs⟩,rfl⟩⟩ (lu (by omega))
 rw[ai e]
 simp only
 rw[List.take_of_length_le (by have:=hN.1;omega)]
theorem Iz (V:VA a n) (hlv:lv.length=n) (hs:nth lv a.1=false):jL a c lv=some nothing:=by
 have hst:=V.start
 unfold jL
 rw[az hst.1 (by omega)];simp only[ae]
 rw[hs,O0];rfl
end
end D
namespace D
open Go.RowKit
abbrev Dm:=(List Int)×Int×Int×(List Int)×Bool
abbrev R1 (x:Int) (j:Nat):Bool:=(qe (nO x (j:Int)) 1)==1
def R2 (F:List Int) (set m0:Int):Nat->Int
 | 0=>m0
 | i+1=>if R1 set (i+1) then orI (R2 F set m0 i) (nth F (i:Int)) else R2 F set m0 i
def pick (L:List Int) (m letter:Int):Nat->Int
 | 0=>0
 | i+1=>if nth L (i:Int)=letter/\R1 m i=true then orI (pick L m letter i) (vM 1 ((i+1:Nat):Int)) else pick L m letter i
def aft (p:Dm) (set letter:Int):Int:=pick p.1 (R2 p.2.2.2.1 set (if (qe set 1)==1 then p.2.1 else 0) p.2.2.2.1.length) letter p.1.length
def tc (p:Dm) (set:Int):Bool:=if (qe set 1)==1 then (if p.2.2.2.2 then true else (qe (nO set 1) p.2.2.1) !=0) else (qe (nO set 1) p.2.2.1) !=0
theorem te (i:Nat):chk (0<=(i:Int))=some ():=by unfold chk;rw[if_pos (by omega)]
theorem V6 {p:Dm} {set letter:Int} (hl:p.2.2.2.1.length=p.1.length) (hb:p.1.length<=1000000):pz p set letter=some (aft p set letter):=by
 have h0: ∀m0,aA (jh p set) aT (m0,0)=some (.brk (R2 p.2.2.2.1 set m0 p.1.length,(p.1.length:Int))):=fun m0 =>
  aU (f:=jh p set) (fun i=>(R2 p.2.2.2.1 set m0 i,(i:Int))) p.1.length (fun i hi=>by
   unfold jh
   simp only
   rw[if_pos (by simp;omega),ah (by omega),te];simp only[ae]
   rw[R2]
   by_cases c:R1 set (i+1)=true
   ·rw[if_pos c,if_pos c,az (by omega) (by omega)];rfl
   ·rw[if_neg c,if_neg c];rfl) (by unfold jh;simp) (lu (by omega))
 have h1: ∀s7:Int×Int,aA (ji p letter s7) aT (0,0)=some (.brk (pick p.1 s7.1 letter p.1.length,(p.1.length:Int))):=fun s7 =>
  aU (f:=ji p letter s7) (fun i=>(pick p.1 s7.1 letter i,(i:Int))) p.1.length (fun i hi=>by
   unfold ji
   simp only
   rw[if_pos (by simp;omega),ah (by omega),te,te];simp only[ae]
   rw[pick]
   by_cases c:R1 s7.1 i=true
   ·rw[if_pos c,az (by omega) (by omega)];simp only[ae]
    by_cases d:nth p.1 (i:Int)=letter
    ·rw[if_pos (by simpa using d),if_pos ⟨d,c⟩];rfl
    ·rw[if_neg (by simpa using d),if_neg (fun h=>d h.1)];rfl
   ·rw[if_neg c,if_neg (fun h=>c h.2)];rfl) (by unfold ji;simp) (lu (by omega))
 unfold pz aft
 rw[hl]
 by_cases c:((qe set 1)==1)=true
 ·rw[if_pos c,if_pos c];simp only[ae]
  rw[ai (h0 _),ai (h1 _)]
 ·rw[if_neg c,if_neg c];simp only[ae]
  rw[ai (h0 _),ai (h1 _)]
theorem V7 {p:Dm} {set letter:Int} (hl:p.2.2.2.1.length=p.1.length) (hb:p.1.length<=1000000):ir p set letter=some (aft p set letter):=by
 have h0: ∀m0,aA (dM p set) aT (m0,0)=some (.brk (R2 p.2.2.2.1 set m0 p.2.2.2.1.length,(p.2.2.2.1.length:Int))):=fun m0 =>
  aU (f:=dM p set) (fun i=>(R2 p.2.2.2.1 set m0 i,(i:Int))) p.2.2.2.1.length (fun i hi=>by
   unfold dM
   simp only
   rw[if_pos (by simp;omega),az (by omega) (by omega)];simp only[ae]
   rw[ah (by omega),te];simp only[ae]
   rw[R2]
   by_cases c:R1 set (i+1)=true
   ·rw[if_pos c,if_pos c];rfl
   ·rw[if_neg c,if_neg c];rfl) (by unfold dM;simp) (lu (by omega))
 have h1: ∀s7:Int×Int,aA (dN p letter s7) aT (0,0)=some (.brk (pick p.1 s7.1 letter p.1.length,(p.1.length:Int))):=fun s7 =>
  aU (f:=dN p letter s7) (fun i=>(pick p.1 s7.1 letter i,(i:Int))) p.1.length (fun i hi=>by
   unfold dN
   simp only
   rw[if_pos (by simp;omega),az (by omega) (by omega)];simp only[ae]
   rw[ah (by omega),te,te];simp only[ae]
   rw[pick]
   by_cases d:nth p.1 (i:Int)=letter
   ·rw[if_pos (by simpa using d)]
    by_cases c:R1 s7.1 i=true
    ·rw[if_pos c,if_pos ⟨d,c⟩];rfl
    ·rw[if_neg c,if_neg (fun h=>c h.2)];rfl
   ·rw[if_neg (by simpa using d),if_neg (fun h=>d h.1)];rfl) (by unfold dN;simp) (lu (by omega))
 unfold ir aft
 by_cases c:((qe set 1)==1)=true
 ·rw[if_pos c,if_pos c];simp only[ae]
  rw[ai (h0 _),ai (h1 _)]
 ·rw[if_neg c,if_neg c];simp only[ae]
  rw[ai (h0 _),ai (h1 _)]
theorem Yc (p:Dm) (x:Int):mM p x=some (tc p x):=by
 unfold mM tc
 split <;> (try split) <;> rfl
theorem Yd (p:Dm) (x:Int):eG p x=some (tc p x):=by
 unfold eG tc
 split <;> (try split) <;> rfl
theorem LH (x:Int): -9223372036854775808<=i64.wrap x/\i64.wrap x<=9223372036854775807:=by
 simp only[IntKind.wrap,IntKind.bits,IntKind.signed,Bool.true_and]
 split <;> rename_i h <;> simp at h <;> omega
theorem V8 (x:Int):iOk (i64.wrap x)=true:=by
 have h1:i64.min= -9223372036854775808:=by decide
 have h2:i64.max=9223372036854775807:=by decide
 have h3:=LH x
 simp only[iOk,Lit.wf,h1,h2,ak,decide_eq_true_eq]
 omega
theorem Ye (m n:Int):iOk (orI m n)=true:=V8 _
theorem O4 (L:List Int) (m letter:Int): ∀i,iOk (pick L m letter i)=true
 | 0=>by unfold pick;decide
 | i+1=>by
  rw[pick]
  split
  ·exact Ye _ _
  ·exact O4 L m letter i
def nxS (p:Dm) (x:Int):List (Option Int):=(List.range 9).map fun k:Nat=>if aft p x (k:Int)=0 then none else some (aft p x (k:Int))
theorem TG {p:Dm} {x:Int} {k:Nat} (hk:k<9):nth (nxS p x) (k:Int)=if aft p x k=0 then none else some (aft p x k):=by
 have:k<(nxS p x).length:=by simp[nxS];omega
 rw[cw this];simp[nxS]
theorem BE (p:Dm) (x:Int):(nxS p x).length=9:=by simp[nxS]
theorem Yf {p:Dm} {x y:Int} (h:some y∈nxS p x):iOk y=true:=by
 obtain ⟨k,hk,e⟩:=List.mem_map.1 h
 split at e
 ·cases e
 ·obtain rfl:=af e
  exact O4 _ _ _ _
theorem O5 {κ:Type} [DecidableEq κ] : ∀(l:List κ) (os:List (Option κ)),(nbS l os).length<=l.length+os.length
 | l,[] =>by simp[nbS]
 | l,o::os=>by
  have h:=O5 (nbL l o) os
  have h2:(nbL l o).length<=l.length+1:=by
   cases o with
   | none=>simp[nbL]
   | some x=>unfold nbL;simp only;split <;> simp
  show (nbS (nbL l o) os).length<=_
  simp only[au];omega
section
variable {κ:Type} [DecidableEq κ] (nx:κ->List (Option κ)) (first:κ) (acc:κ->Bool) (most:Nat)
def goM:Nat->Nat->AutT×Bool
 | 0,i=>((0,[],[]),false)
 | f+1,i=>if i<(bfS nx first i).length then (if (bfS nx first (i+1)).length>most then ((0,[],[]),false) else goM f (i+1)) else ((0,((bfS nx first i).take i).map acc,bfR nx first i),true)
end
section
variable {κ:Type} [DecidableEq κ] {nx:κ->List (Option κ)} {first:κ} {acc:κ->Bool} {most:Nat}
theorem ED {i:Nat} (h: ∀j,j<i->j<(bfS nx first j).length):i<=(bfS nx first i).length:=by
 cases i with
 | zero=>omega
 | succ i =>
  have h1:=h i (by omega)
  have h2:=(b9 (nx:=nx) (first:=first) i).length_le
  omega
theorem J7 {S:Type} {f:S->Option (Out (AutT×Bool) S)} (hm:most<=1000000) (h1:1<=most) (st:Nat->S->Prop)
  (hs: ∀i s,st i s->(∀j,j<i->j<(bfS nx first j).length)->(bfS nx first i).length<=most->i<(bfS nx first i).length->((bfS nx first (i+1)).length>most->f s=some (.ret ((0,[],[]),false)))/\((bfS nx first (i+1)).length<=most-> ∃s',f s=some (.nxt s')/\st (i+1) s'))
  (he: ∀i s,st i s-> ¬i<(bfS nx first i).length->f s=some (.brk s)) {s:S} (h0:st 0 s) :
  (aA f aT s=some (.ret ((0,[],[]),false))/\goM nx first acc most (most+2) 0=((0,[],[]),false)) \/
  ∃N s',aA f aT s=some (.brk s')/\st N s'/\bfE nx first N/\N<=most/\goM nx first acc most (most+2) 0=((0,(bfS nx first N).map acc,bfR nx first N),true):=by
 obtain ⟨o,e,hq⟩:=cz (f:=f) (fun i s=>st i s/\(∀j,j<i->j<(bfS nx first j).length)/\(bfS nx first i).length<=most/\goM nx first acc most (most+2) 0=goM nx first acc most (most+2 - i) i)
  (fun o=>(o= .ret ((0,[],[]),false)/\goM nx first acc most (most+2) 0=((0,[],[]),false))\/ ∃N s',o= .brk s'/\st N s'/\bfE nx first N/\N<=most/\goM nx first acc most (most+2) 0=((0,(bfS nx first N).map acc,bfR nx first N),true)) most (s:=s) (by
  rintro i s hi ⟨k1,k2,k3,k4⟩
  have hle:=ED k2
  rw[show most+2 - i=(most+1 - i)+1 from by omega] at k4
  have k5:goM nx first acc most (most+1 - i+1) i=if i<(bfS nx first i).length then (if (bfS nx first (i+1)).length>most then ((0,[],[]),false) else goM nx first acc most (most+1 - i) (i+1)) else ((0,((bfS nx first i).take i).map acc,bfR nx first i),true):=rfl
  rw[k5] at k4
  by_cases c:i<(bfS nx first i).length
  ·rw[if_pos c] at k4
   obtain ⟨q1,q2⟩:=hs i s k1 k2 k3 c
   by_cases d:(bfS nx first (i+1)).length>most
   ·rw[if_pos d] at k4
    exact .inr ⟨_,q1 d,(fun s' e=>by cases e),.inl ⟨rfl,k4⟩⟩
   ·rw[if_neg d] at k4
    obtain ⟨s',e,hs'⟩:=q2 (by omega)
    exact .inl ⟨by omega,s',e,hs',fun j hj=>(by
     by_cases ej:j=i
     ·subst ej;exact c
     ·exact k2 j (by omega)),by omega,by rw[k4];congr 1;omega⟩
  ·rw[if_neg c] at k4
   refine .inr ⟨_,he i s k1 c,(fun s' e=>by cases e),.inr ⟨i,s,rfl,k1,⟨by omega,k2⟩,hi,?_⟩⟩
   rw[k4,List.take_of_length_le (by omega)]) ⟨h0,fun j hj=>by omega,by simp[bfS];omega,rfl⟩ (lu (by omega))
 rcases hq with ⟨rfl,h⟩ | ⟨N,s',rfl,h⟩
 ·exact .inl ⟨e,h⟩
 ·exact .inr ⟨N,s',e,h⟩
end
section
variable {p:Dm} {most:Nat} (hl:p.2.2.2.1.length=p.1.length) (hb:p.1.length<=1000000) (hm:most<=900000) (h1:1<=most)
include hl hb hm h1
theorem ZR:jv p most=some (goM (nxS p) 1 (tc p) most (most+2) 0):=by
 have hp3: ∀(l:List Int) (i k:Nat),k<9-> ∃j,(fun a0 a1=>dQ a0 a1 (p.1,p.2.1,p.2.2.1,p.2.2.2.1,p.2.2.2.2)) (nth l (i:Int)) (k:Int)=some (match nth (nxS p (nth l (i:Int))) (k:Int) with | some y=>(y,true) | none=>(j,false)):=by
  intro l i k hk
  refine ⟨0,?_⟩
  show dQ _ _ p=_
  unfold dQ
  simp only[iN]
  rw[V7 hl hb,TG hk];simp only[ae]
  by_cases c:aft p (nth l (i:Int)) k=0
  ·rw[if_pos c];simp[c]
  ·rw[if_neg c];simp[c]
 unfold jv fQ
 rw[show Mq ([] :List (Int×Int)) iOk iOk 1 0=some [(1,0)] from by unfold Mq;rw[if_pos ⟨by simp,by decide,by decide⟩]];simp only[ae]
 rcases J7 (nx:=nxS p) (first:=1) (acc:=tc p) (most:=most) (f:=cJ most (fun a0=>eG (p.1,p.2.1,p.2.2.1,p.2.2.2.1,p.2.2.2.2) a0) (fun a0 a1=>dQ a0 a1 (p.1,p.2.1,p.2.2.1,p.2.2.2.1,p.2.2.2.2)))
  (by omega) h1 (fun i s=> ∃M,s=(bfS (nxS p) 1 i,M,(i:Int),0,((bfS (nxS p) 1 i).take i).map (tc p),bfR (nxS p) 1 i)/\MapOf M (bfS (nxS p) 1 i)) (by
   rintro i s ⟨M,rfl,hM⟩ hj hle hlt
   have hil:=ED hj
   obtain ⟨M',e,hM'⟩:=GP (p3:=fun a0 a1=>dQ a0 a1 (p.1,p.2.1,p.2.2.1,p.2.2.2.1,p.2.2.2.2)) (l:=bfS (nxS p) 1 i) (M:=M) (os:=nxS p (nth (bfS (nxS p) 1 i) (i:Int))) (acs:=((bfS (nxS p) 1 i).take i).map (tc p)) (rws:=bfR (nxS p) 1 i) hlt (BE _ _) hM (fun y hy=>Yf hy)
    (fun k=>by
     have:=O5 (bfS (nxS p) 1 i) ((nxS p (nth (bfS (nxS p) 1 i) (i:Int))).take k)
     have h9:=BE p (nth (bfS (nxS p) 1 i) (i:Int))
     rw[aB] at this
     omega) (fun k hk=>hp3 _ i k hk)
   rw[<-l9 hlt] at hM'
   have hl2:=(b9 (nx:=nxS p) (first:=1) i).length_le
   constructor
   ·intro hgt
    unfold cJ
    simp only
    rw[if_pos (by simp;omega),ai e,<-l9 hlt]
    simp only
    rw[if_pos (by simp;omega)]
   ·intro hle2
    unfold cJ
    simp only
    rw[if_pos (by simp;omega),ai e,<-l9 hlt]
    simp only
    rw[if_neg (by simp;omega),az (by omega) (by omega)];simp only[ae]
    rw[lh (b9 i) (by omega) (by omega)]
    simp only[iN]
    rw[Yd];simp only[ae]
    have hr:(bfR (nxS p) 1 i).length=i:=lf hj
    rw[aH (by simp;omega)];simp only[ae]
    rw[aH (by simp;omega)];simp only[ae,ah (show i<9223372036854775807 by omega)]
    exact ⟨_,rfl,M',by rw[zK hlt,xd hlt],hM'⟩) (by
   rintro i s ⟨M,rfl,hM⟩ hn
   unfold cJ
   simp only
   rw[if_neg (by simp;omega)]) (s:=([1],[(1,0)],0,0,[],[])) ⟨_,rfl,MapOf.one 1⟩ with ⟨e,hg⟩ | ⟨N,s',e,⟨M,rfl,hM⟩,hN,hNm,hg⟩
 ·rw[bs e,hg];rfl
 ·rw[ai e,hg];simp only[ae]
  rw[List.take_of_length_le (by have:=hN.1;omega)]
theorem R3 {l:List Int} {acs:List Bool} {rws:List (List Int)} {i:Nat} (hi:i<l.length) (hle:l.length<=most) :
  aA (gG p (l,(i:Int),0,acs,rws)) aT (l,[],0)=some (.brk (nbS l (nxS p (nth l (i:Int))),nbR l (nxS p (nth l (i:Int))),9)):=by
 have h9:=BE p (nth l (i:Int))
 have:=aU (f:=gG p (l,(i:Int),0,acs,rws)) (fun k=>(nbS l ((nxS p (nth l (i:Int))).take k),nbR l ((nxS p (nth l (i:Int))).take k),(k:Int))) 9 (fun k hk=>by
  have hpre:=mG l ((nxS p (nth l (i:Int))).take k)
  have hlen:=hpre.length_le
  have hB:=O5 l ((nxS p (nth l (i:Int))).take k)
  rw[aB] at hB
  have hrl:(nbR l ((nxS p (nth l (i:Int))).take k)).length<=9:=by rw[fU,aB];omega
  unfold gG
  simp only[iN]
  rw[if_pos (by simp;omega),az (by omega) (by omega)];simp only[ae]
  rw[lh hpre (by omega) (by omega),V6 hl hb];simp only[ae]
  rw[take_one (by omega),w7,tT,TG hk]
  simp only[ah (show k<9223372036854775807 by omega)]
  by_cases c:aft p (nth l (i:Int)) k=0
  ·rw[if_pos c,if_neg (by simp[c])];simp only[ae]
   rw[aH (by simp;omega)];rfl
  ·rw[if_neg c,if_pos (by simpa using c),TE (by omega)];simp only[ae]
   by_cases d:aft p (nth l (i:Int)) k∈nbS l ((nxS p (nth l (i:Int))).take k)
   ·rw[if_pos d,if_neg (by simp),nH d];simp only[ae]
    rw[aH (by simp;omega)];rfl
   ·rw[if_neg d,if_pos (by decide),aH (by simp;omega),mH d];simp only[ae]
    rw[aH (by simp;omega)];simp only[nbI,qN d,ae]) (by
  unfold gG
  simp) (by unfold aT;omega)
 have e9:(nxS p (nth l (i:Int))).take 9=nxS p (nth l (i:Int)):=List.take_of_length_le (by omega)
 rw[e9] at this
 exact this
theorem Yg:dZ p most=some (goM (nxS p) 1 (tc p) most (most+2) 0):=by
 unfold dZ
 rcases J7 (nx:=nxS p) (first:=1) (acc:=tc p) (most:=most) (f:=gH p most)
  (by omega) h1 (fun i s=>s=(bfS (nxS p) 1 i,(i:Int),0,((bfS (nxS p) 1 i).take i).map (tc p),bfR (nxS p) 1 i)) (by
   rintro i s rfl hj hle hlt
   have hil:=ED hj
   have e:=R3 hl hb hm h1 (acs:=((bfS (nxS p) 1 i).take i).map (tc p)) (rws:=bfR (nxS p) 1 i) hlt hle
   have hl2:=(b9 (nx:=nxS p) (first:=1) i).length_le
   constructor
   ·intro hgt
    unfold gH
    simp only
    rw[if_pos (by simp;omega),ai e,<-l9 hlt]
    simp only
    rw[if_pos (by simp;omega)]
   ·intro hle2
    unfold gH
    simp only
    rw[if_pos (by simp;omega),ai e,<-l9 hlt]
    simp only
    rw[if_neg (by simp;omega),az (by omega) (by omega)];simp only[ae]
    rw[lh (b9 i) (by omega) (by omega)]
    simp only[iN]
    rw[Yc];simp only[ae]
    have hr:(bfR (nxS p) 1 i).length=i:=lf hj
    rw[aH (by simp;omega)];simp only[ae]
    rw[aH (by simp;omega)];simp only[ae,ah (show i<9223372036854775807 by omega)]
    exact ⟨_,rfl,by rw[zK hlt,xd hlt]⟩) (by
   rintro i s rfl hn
   unfold gH
   simp only
   rw[if_neg (by simp;omega)]) (s:=([1],0,0,[],[])) rfl with ⟨e,hg⟩ | ⟨N,s',e,rfl,hN,hNm,hg⟩
 ·rw[bs e,hg]
 ·rw[ai e,hg];simp only
  rw[List.take_of_length_le (by have:=hN.1;omega)]
end
end D
namespace D
open Go.RowKit
theorem R4 (m n:Int):orI m n=orI n m:=by unfold orI;rw[BitVec.or_comm]
def lk (F:List Int) (from_ to_:Int):Nat->List Int
 | 0=>F
 | i+1=>if R1 from_ i then (lk F from_ to_ i).set i (orI (nth (lk F from_ to_ i) (i:Int)) to_) else lk F from_ to_ i
theorem xe (F:List Int) (f t:Int): ∀i,(lk F f t i).length=F.length
 | 0=>rfl
 | i+1=>by
  rw[lk]
  split
  ·rw[List.length_set,xe]
  ·exact xe F f t i
theorem J8 {p:Dm} {f t:Int} (hl:p.2.2.2.1.length<=1000000):oJ p f t=some (p.1,p.2.1,p.2.2.1,lk p.2.2.2.1 f t p.2.2.2.1.length,p.2.2.2.2):=by
 have hL:aA (j5 f t) aT (0,p.2.2.2.1)=some (.brk ((p.2.2.2.1.length:Int),lk p.2.2.2.1 f t p.2.2.2.1.length)):=aU (f:=j5 f t) (fun i=>((i:Int),lk p.2.2.2.1 f t i)) p.2.2.2.1.length (fun i hi=>by
  have hk:=xe p.2.2.2.1 f t i
  unfold j5
  simp only
  rw[if_pos (by simp;omega),te];simp only[ae]
  rw[lk,ah (by omega)]
  by_cases c:R1 f i=true
  ·rw[if_pos c,if_pos c,az (by omega) (by omega)];simp only[ae,Int.toNat_natCast]
  ·rw[if_neg c,if_neg c];rfl) (by unfold j5;simp[xe]) (lu (by omega))
 unfold oJ
 rw[ai hL]
theorem J9 {p:Dm} {f t:Int} (hl:p.2.2.2.1.length<=1000000):eW p f t=some (p.1,p.2.1,p.2.2.1,lk p.2.2.2.1 f t p.2.2.2.1.length,p.2.2.2.2):=by
 have hL:aA (dF p f t) aT (0,p.2.2.2.1)=some (.brk ((p.2.2.2.1.length:Int),lk p.2.2.2.1 f t p.2.2.2.1.length)):=aU (f:=dF p f t) (fun i=>((i:Int),lk p.2.2.2.1 f t i)) p.2.2.2.1.length (fun i hi=>by
  have hk:=xe p.2.2.2.1 f t i
  unfold dF
  simp only
  rw[if_pos (by simp;omega),te];simp only[ae]
  rw[lk,ah (by omega)]
  by_cases c:R1 f i=true
  ·rw[if_pos c,if_pos c,az (by omega) (by omega)];simp only[ae,Int.toNat_natCast]
  ·rw[if_neg c,if_neg c];rfl) (by unfold dF;simp) (lu (by omega))
 unfold eW
 rw[ai hL]
def BOk (x:Tr Tok):Prop:= ∀(n m:Nat) (p:Dm),(flat x).length<=n->(flat x).length<=m->p.2.2.2.1.length=p.1.length->p.1.length+(flat x).length<=100000->
 ∃(nu:Bool) (fi la:Int) (q:Dm),cG n p (flat x)=some ((nu,fi,la),q)/\bG m p x=some ((fi,la,nu),q)/\q.2.2.2.1.length=q.1.length/\q.1.length<=p.1.length+(flat x).length
theorem R5 {x:Tr Tok} (h:WT x):BOk x:=by
 refine WT.ind (p:=BOk) ?_ ?_ ?_ h
 ·intro t e n m p hn hm hF hl
  rw[Bz] at hn hm hl⊢
  simp only[au,ax] at hl
  match n,m,hn,hm with
  | n+1,m+1,_,_ =>
   rw[cG,bG];simp only[qP,ae]
   have:=(kG (A:=[]) (t:=t) (by simp)).1
   rw[List.nil_append] at this
   rw[this];simp only[ae,iN]
   rcases mI (show 0<=ar t by omega) with ⟨k,_⟩ | ⟨k,_⟩ | ⟨_,k⟩
   ·omega
   ·omega
   rcases k with k | k | k
   ·exact ⟨false,0,0,p,by simp[k],by simp[k],hF,by simp⟩
   ·exact ⟨true,0,0,p,by simp[k],by simp[k],hF,by simp⟩
   ·refine ⟨false,vM 1 (p.1.length:Int),vM 1 (p.1.length:Int),(p.1++ [t.2.1],p.2.1,p.2.2.1,p.2.2.2.1++ [0],p.2.2.2.2),?_,?_,by simp[hF],by simp⟩
    ·rw[if_neg (by simp[k]),if_pos (by simp[k]),aH (by simp;omega)];simp only[ae]
     rw[aH (by simp;omega)];rfl
    ·rw[if_neg (by simp[k]),if_pos (by simp[k]),aH (by simp;omega)];simp only[ae]
     rw[aH (by simp;omega)];rfl
 ·intro t a e wa ih n m p hn hm hF hl
  rw[Cz] at hn hm hl⊢
  simp only[aj,au,ax] at hn hm hl
  match n,m,hn,hm with
  | n+1,m+1,hn,hm =>
   rw[cG,bG];simp only[qP,ae,iN]
   obtain ⟨l1,l2⟩:=kG (A:=flat a) (t:=t) (by omega)
   rw[l1];simp only[ae]
   obtain ⟨nu,fi,la,q,hs,hi,hq1,hq2⟩:=ih n m p (by omega) (by omega) hF (by omega)
   rcases OR e with ⟨k1,k2⟩ | ⟨k1,k2,k3⟩
   ·have g2:(t.1==2)=false:=by simp[k2]
    have g3:(t.1==3)=false:=by simp[k2]
    have g4:(t.1==4)=false:=by simp[k2]
    have g5:(t.1==5)=false:=by simp[k2]
    simp only[g2,g3,g4,g5,k1,Bool.false_eq_true,if_false,if_true]
    rw[l2,Int.toNat_natCast,List.take_left,jF (by simp only[aj,au,ax];omega)];simp only[ae]
    rw[hs,show aQ [a] 0=some a from rfl];simp only[ae]
    rw[hi];simp only[ae,iN]
    rw[J8 (by omega),J9 (by omega)];simp only[ae]
    refine ⟨true,fi,la,_,rfl,rfl,?_,?_⟩
    ·simp only[xe];exact hq1
    ·simp only[aj,au,ax];omega
   ·have g2:(t.1==2)=false:=by simp[k3]
    have g3:(t.1==3)=false:=by simp[k3]
    have g4:(t.1==4)=false:=by simp[k3]
    have g5:(t.1==5)=false:=by simp[k3]
    simp only[g2,g3,g4,g5,k1,Bool.false_eq_true,if_false]
    exact ⟨false,0,0,p,rfl,rfl,hF,by omega⟩
 ·intro t a b e wa wb iha ihb n m p hn hm hF hl
  rw[ue] at hn hm hl⊢
  have hl2:((flat a++flat b)++ [t]).length<=1000000:=by omega
  obtain ⟨p1,p2,p3,p4⟩:=xb (a:=a) (t:=t) wb hl2
  simp only[aj,au,ax] at hn hm hl
  match n,m,hn,hm with
  | n+1,m+1,hn,hm =>
   have hpa:=wa.pos
   have hpb:=wb.pos
   rw[cG,bG];simp only[qP,ae,iN]
   obtain ⟨l1,l2⟩:=kG (A:=flat a++flat b) (t:=t) (by rw[aj];omega)
   rw[l1];simp only[ae]
   obtain ⟨nu,fi,la,q,hs,hi,hq1,hq2⟩:=iha n m p (by omega) (by omega) hF (by omega)
   obtain ⟨nu2,fi2,la2,q2,hs2,hi2,hq3,hq4⟩:=ihb n m q (by omega) (by omega) hq1 (by omega)
   have c1: ∀r:Int,0<=r->r<=((flat a++flat b++ [t]).length:Int)->chk (0<=r/\r<=((flat a++flat b++ [t]).length:Int))=some ():=fun r h1 h2=>jF ⟨h1,h2⟩
   have g0:aQ [a,b] 0=some a:=rfl
   have g1:aQ [a,b] 1=some b:=rfl
   rcases mI (show 0<=ar t by omega) with ⟨_,k⟩ | ⟨k,_⟩ | ⟨k,_⟩
   ·rcases k with k | k
    ·have g2:(t.1==2)=false:=by simp[k]
     have g3:(t.1==3)=false:=by simp[k]
     have g4:(t.1==4)=true:=by simp[k]
     have g5:(t.1==5)=false:=by simp[k]
     simp only[g2,g3,g4,g5,Bool.false_eq_true,if_false,if_true]
     rw[l2,p1,p2,jF (by simp only[aj,au,ax];omega)];simp only[ae]
     rw[jF (by simp only[aj,au,ax];omega),p3,p4,hs,g0,g1];simp only[ae]
     rw[hi,jF (by simp only[aj,au,ax];omega)];simp only[ae,iN]
     rw[hs2,hi2];simp only[ae,iN]
     rw[J8 (by omega),J9 (by omega)];simp only[ae]
     refine ⟨nu&&nu2,if nu then orI fi fi2 else fi,if nu2 then orI la la2 else la2,(q2.1,q2.2.1,q2.2.2.1,lk q2.2.2.2.1 la fi2 q2.2.2.2.1.length,q2.2.2.2.2),?_,?_,?_,?_⟩
     ·cases nu <;> cases nu2 <;> rfl
     ·rw[R4 la la2]
      cases nu <;> cases nu2 <;> rfl
     ·simp only[xe];exact hq3
     ·simp only[aj,au,ax];omega
    ·have g2:(t.1==2)=false:=by simp[k]
     have g3:(t.1==3)=false:=by simp[k]
     have g4:(t.1==4)=false:=by simp[k]
     have g5:(t.1==5)=true:=by simp[k]
     simp only[g2,g3,g4,g5,Bool.false_eq_true,if_false,if_true]
     rw[l2,p1,p2,jF (by simp only[aj,au,ax];omega)];simp only[ae]
     rw[jF (by simp only[aj,au,ax];omega),p3,p4,hs,g0,g1];simp only[ae]
     rw[hi,jF (by simp only[aj,au,ax];omega)];simp only[ae,iN]
     rw[hs2,hi2];simp only[ae,iN]
     refine ⟨nu || nu2,orI fi fi2,orI la la2,q2,?_,?_,hq3,?_⟩
     ·cases nu <;> simp
     ·cases nu <;> simp
     ·simp only[aj,au,ax];omega
   ·omega
   ·omega
def E3 (e:List Tok):Nat->Nat
 | 0=>0
 | i+1=>if (nth e (i:Int)).1=3 then E3 e i+1 else E3 e i
theorem IA (e:List Tok): ∀i,E3 e i<=i
 | 0=>aG _
 | i+1=>by
  have:=IA e i
  rw[E3];split <;> omega
theorem Yh {r:List Tok×Bool} (hl:r.1.length<=1000000):aA (eD r) aT (0,0)=some (.brk ((E3 r.1 r.1.length:Int),(r.1.length:Int))):=
 aU (f:=eD r) (fun i=>((E3 r.1 i:Int),(i:Int))) r.1.length (fun i hi=>by
  have:=IA r.1 i
  unfold eD
  simp only
  rw[if_pos (by simp;omega),az (by omega) (by omega)];simp only[ae]
  rw[E3,ah (show i<9223372036854775807 by omega),ah (show E3 r.1 i<9223372036854775807 by omega)]
  by_cases c:(nth r.1 (i:Int)).1=3
  ·rw[if_pos (by simpa using c),if_pos c];rfl
  ·rw[if_neg (by simpa using c),if_neg c];rfl) (by unfold eD;simp) (lu (by omega))
theorem ZS {r:List Tok×Bool} (hl:r.1.length<=1000000):aA (eF r) aT (0,0)=some (.brk ((E3 r.1 r.1.length:Int),(r.1.length:Int))):=
 aU (f:=eF r) (fun i=>((E3 r.1 i:Int),(i:Int))) r.1.length (fun i hi=>by
  have:=IA r.1 i
  unfold eF
  simp only
  rw[if_pos (by simp;omega),az (by omega) (by omega)];simp only[ae]
  rw[E3,ah (show i<9223372036854775807 by omega),ah (show E3 r.1 i<9223372036854775807 by omega)]
  by_cases c:(nth r.1 (i:Int)).1=3
  ·rw[if_pos (by simpa using c),if_pos c];rfl
  ·rw[if_neg (by simpa using c),if_neg c];rfl) (by unfold eF;simp) (lu (by omega))
theorem vG {e:List Tok} (he:e.length<=1048576): ∃r:Dm×Bool,dA e=some r/\iQ e=some r/\r.1.2.2.2.1.length=r.1.1.length/\r.1.1.length<=100000:=by
 have hF:=pf
 obtain ⟨e1,e2⟩:=Ix he
 unfold dA iQ
 rw[e1,e2];simp only[ae]
 by_cases c:(B1 e).2=true
 ·obtain ⟨y,wy,ey,ly⟩:=OV c
  rw[if_pos c,if_pos c,ai (Yh (by rw[ey];omega)),ai (ZS (by rw[ey];omega))]
  simp only
  by_cases d:(E3 (B1 e).1 (B1 e).1.length:Int)>20
  ·have d':decide ((E3 (B1 e).1 (B1 e).1.length:Int)>20)=true:=decide_eq_true d
   simp only[d',if_true]
   exact ⟨_,rfl,rfl,rfl,by simp⟩
  ·have d':decide ((E3 (B1 e).1 (B1 e).1.length:Int)>20)=false:=decide_eq_false d
   simp only[d',Bool.false_eq_true,if_false]
   rw[ey,EA (by omega),tU wy];simp only[ae]
   obtain ⟨nu,fi,la,q,hs,hi,hq1,hq2⟩:=R5 wy fJ fJ ([],0,0,[],false) (by omega) (by omega) rfl (by simp;omega)
   rw[hs,hi];simp only[ae]
   exact ⟨_,rfl,rfl,hq1,by simp at hq2;show q.1.length<=_;omega⟩
 ·rw[if_neg c,if_neg c]
  exact ⟨_,rfl,rfl,rfl,by simp⟩
end D
namespace D
open Go.RowKit
theorem LI (n:Nat) (l:List Int) (hd:l.Nodup) (h: ∀x∈l,0<=x/\x<n):l.length<=n:=by
 have:=hd.length_le_of_subset (l₂:=(List.range n).map Int.ofNat) (fun x hx=>by
  obtain ⟨h0,h1⟩:=h x hx
  exact List.mem_map.2 ⟨x.toNat,List.mem_range.2 (by omega),by show ((x.toNat:Nat):Int)=x;omega⟩)
 simpa using this
theorem Yi {n:Nat} {x:Int} (hn:n<=1000000) (h0:0<=x) (h1:x<n):iOk x=true:=by
 have:=O2 (n:=x.toNat) (by omega)
 rwa [show ((x.toNat:Nat):Int)=x from by omega] at this
theorem Yj {κ:Type} [DecidableEq κ] {nx:κ->List (Option κ)} {first:κ} {G:κ->Prop} {B N:Nat} {acc:κ->Bool} (H:NumOk nx first G B) (hB:B<=1000000) (hN:bfE nx first N):Data.sm ((0,(bfS nx first N).map acc,bfR nx first N):AutT):=by
 have hl:=H.bound _ (pe (nx:=nx) (first:=first) N) (l6 H.g0 H.gn N)
 refine ⟨trivial,⟨by rw[List.length_map];omega,fun _ _=>trivial⟩,?_,?_⟩
 ·rw[lf hN.2];have:=hN.1;omega
 ·have key: ∀i,i<=N-> ∀r∈bfR nx first i,r.length=9:=by
   intro i
   induction i with
   | zero=>intro _ r hr;cases hr
   | succ i ih =>
    intro hi r hr
    have hlt:=hN.2 i (by omega)
    rw[w8 hlt] at hr
    rcases aI hr with hr | hr
    ·exact ih (by omega) r hr
    ·obtain rfl:=aw hr
     rw[fU,H.len _ (l6 H.g0 H.gn i _ (List.getElem_mem hlt))]
  intro r hr
  exact ⟨by rw[key N (aG _) r hr];decide,fun _ _=>trivial⟩
theorem LJ:Data.sm nothing:=⟨trivial,⟨by decide,fun _ _=>trivial⟩,by decide,fun r hr=>by
 obtain rfl:=aw hr
 exact ⟨by decide,fun _ _=>trivial⟩⟩
end D
end Go.Proofs.YtbhafdfiplkacaaGreat
