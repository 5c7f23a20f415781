/- FnExactAuditAnswers: for every input the law returns true and changes nothing that was there. Part 6 of 8. -/
import Derived.Test.YtcmpdlhbliolaaaGreatAC4
set_option linter.unusedVariables false
set_option linter.unusedSimpArgs false
set_option linter.unnecessarySimpa false
set_option linter.unusedSectionVars false
set_option maxRecDepth 1000000
namespace Go.Proofs.YtcmpdlhbliolaaaGreat
namespace R
open Go.RowKit
open D
abbrev y3:Ty:=.int .i64
abbrev uk:Ty:=.prod y3 (.prod y3 (.prod y3 y3))
abbrev t198:Ty:=.tree 271 198 uk
abbrev y4:Ty:=.bool
abbrev V0:Ty:=.prod y3 y4
abbrev Vr:Ty:=.sl 265 V0
abbrev Vs:Ty:=.prod y3 Vr
abbrev jJ:Ty:=.prod y3 y3
abbrev Ds:Ty:=.prod y3 y4
abbrev Tg:Ty:=.sl 261 Ds
abbrev CH:Ty:=.prod y3 Tg
abbrev V1:Ty:=.prod y3 y3
abbrev y39:Ty:=.sl 3 y3
abbrev Gr:Ty:=.prod y39 (.prod y3 (.prod y3 (.prod y39 y4)))
abbrev V2:Ty:=.prod y3 (.prod y3 (.prod y3 y3))
abbrev Gs:Ty:=.prod y3 (.prod y3 (.prod y3 y3))
abbrev V3:Ty:=.prod y3 (.prod y3 (.prod y3 y3))
abbrev V4:Ty:=.fro t198
abbrev y22:Ty:=.sl 4 y4
abbrev y23:Ty:=.sl 39 y39
abbrev W7:Ty:=.prod y4 (.prod y3 y3)
abbrev W8:Ty:=.prod y3 (.prod y3 y4)
abbrev Un:Ty:=.prod Ds (.prod y3 y3)
abbrev Mx:Ty:=.sl 263 Un
abbrev Xp:Ty:=.sl 258 Mx
abbrev Vt:Ty:=.sl 198 V4
abbrev Xq:Ty:=.prod uk Vt
abbrev Uo:Ty:=.int .u64
abbrev y29:Ty:=.prod y3 (.prod y22 y23)
abbrev W9:Ty:=.prod Ds (.prod y3 y3)
abbrev V5:Ty:=.sl 315 W9
abbrev Xa:Ty:=.sl 313 V5
abbrev Up:Ty:=.int .u32
abbrev Uq:Ty:=.int .u64
abbrev y51:Ty:=.sl 181 V2
abbrev y53:Ty:=.wr y51
abbrev y56:Ty:=.sl 179 uk
abbrev y58:Ty:=.wr y56
abbrev y62:Ty:=.sl 196 V3
abbrev y64:Ty:=.prod y39 y62
abbrev y65:Ty:=.sl 136 V1
abbrev y66:Ty:=.sl 121 Vs
abbrev y71:Ty:=.sl 194 Gs
abbrev y73:Ty:=.prod y39 y71
abbrev y75:Ty:=.sl 128 jJ
abbrev y77:Ty:=.sl 131 CH
theorem ti3:TI Tryz.prog 3 false 1:=⟨⟨_,Tryz.underlying3,rfl⟩,by kernel_rfl⟩
theorem Ur (a0:Int) (a1:Int) (b0:Int) (b1:Int) (w:World):EqT Tryz.prog 128 (.agg #[.int .i64 a0,.int .i64 a1]) (.agg #[.int .i64 b0,.int .i64 b1]) ((a0==b0)&&((a1==b1)&&true)) w:=PA w Tryz.underlying128 (by kernel_rfl) (by kernel_rfl) (qv rfl (o9 ti3 rfl) (o9 ti3 rfl) (run_equalIn_int w 9998 3 _ _ _ _ Tryz.underlying3) (qv rfl (o9 ti3 rfl) (o9 ti3 rfl) (run_equalIn_int w 9998 3 _ _ _ _ Tryz.underlying3) (I2 w)))
theorem Us (a0:Int) (a1:Int) (a2:Int) (a3:Int) (b0:Int) (b1:Int) (b2:Int) (b3:Int) (w:World):EqT Tryz.prog 179 (.agg #[.int .i64 a0,.int .i64 a1,.int .i64 a2,.int .i64 a3]) (.agg #[.int .i64 b0,.int .i64 b1,.int .i64 b2,.int .i64 b3]) ((a0==b0)&&((a1==b1)&&((a2==b2)&&((a3==b3)&&true)))) w:=PA w Tryz.underlying179 (by kernel_rfl) (by kernel_rfl) (qv rfl (o9 ti3 rfl) (o9 ti3 rfl) (run_equalIn_int w 9998 3 _ _ _ _ Tryz.underlying3) (qv rfl (o9 ti3 rfl) (o9 ti3 rfl) (run_equalIn_int w 9998 3 _ _ _ _ Tryz.underlying3) (qv rfl (o9 ti3 rfl) (o9 ti3 rfl) (run_equalIn_int w 9998 3 _ _ _ _ Tryz.underlying3) (qv rfl (o9 ti3 rfl) (o9 ti3 rfl) (run_equalIn_int w 9998 3 _ _ _ _ Tryz.underlying3) (I2 w)))))
theorem mz3 (w:World):(zeroValue 3).run Tryz.prog w= .ok (.int .i64 0) w:=by kernel_rfl
theorem kk3:KeyOk Tryz.prog 3 (fun n:Int=>Value.int .i64 n) Q3 iOk:=TA Tryz.underlying3
theorem ek3:EltOk Tryz.prog 3 (fun n:Int=>Value.int .i64 n) Q3 iOk 0:=TC Tryz.underlying3 mz3
def tt:TT:=[(3,⟨false,1,none,y3,[],some 8,none,false,none,none,some (some .i64),false,none⟩),
 (4,⟨false,1,none,y4,[],some 1,none,true,none,none,none,false,none⟩),
 (22,⟨false,1,some 4,y22,[],some 24,none,false,none,none,none,false,none⟩),
 (23,⟨false,1,some 39,y23,[],some 24,none,false,none,none,none,false,none⟩),
 (29,⟨true,3,none,y29,[(0,0),(1,0),(2,0)],some 56,some [(0,1),(1,1),(2,1)],false,none,none,none,false,none⟩),
 (39,⟨false,1,some 3,y39,[],some 24,none,false,none,none,none,false,none⟩),
 (51,⟨false,1,some 181,y51,[],some 24,none,false,none,none,none,false,none⟩),
 (53,⟨true,1,none,y53,[(0,0)],some 24,some [(0,1)],false,none,none,none,false,none⟩),
 (56,⟨false,1,some 179,y56,[],some 24,none,false,none,none,none,false,none⟩),
 (58,⟨true,1,none,y58,[(0,0)],some 24,some [(0,1)],false,none,none,none,false,none⟩),
 (62,⟨false,1,some 196,y62,[],some 24,none,false,none,none,none,false,none⟩),
 (64,⟨true,2,none,y64,[(0,0),(1,0)],some 48,some [(0,1),(1,1)],false,none,none,none,false,none⟩),
 (65,⟨false,1,some 136,y65,[],some 24,none,false,none,none,none,false,none⟩),
 (66,⟨false,1,some 121,y66,[],some 24,none,false,none,none,none,false,none⟩),
 (71,⟨false,1,some 194,y71,[],some 24,none,false,none,none,none,false,none⟩),
 (73,⟨true,2,none,y73,[(0,0),(1,0)],some 48,some [(0,1),(1,1)],false,none,none,none,false,none⟩),
 (75,⟨false,1,some 128,y75,[],some 24,none,false,none,none,none,false,none⟩),
 (77,⟨false,1,some 131,y77,[],some 24,none,false,none,none,none,false,none⟩),
 (94,⟨false,1,none,.bool,[],none,none,false,none,none,none,true,none⟩),
 (119,⟨false,1,some 265,Vr,[],some 24,none,false,none,none,none,false,none⟩),
 (121,⟨true,2,none,Vs,[(0,0),(1,0)],some 32,some [(0,1),(1,1)],false,none,none,none,false,none⟩),
 (128,⟨true,2,none,jJ,[(0,0),(1,0)],some 16,some [(0,1),(1,1)],false,some [some .i64,some .i64],none,none,false,none⟩),
 (129,⟨false,1,some 261,Tg,[],some 24,none,false,none,none,none,false,none⟩),
 (131,⟨true,2,none,CH,[(0,0),(1,0)],some 32,some [(0,1),(1,1)],false,none,none,none,false,none⟩),
 (136,⟨true,2,none,V1,[(0,0),(1,0)],some 16,some [(0,1),(1,1)],false,none,none,none,false,none⟩),
 (144,⟨false,1,none,.bool,[],none,none,false,none,none,none,true,none⟩),
 (147,⟨false,1,none,.bool,[],none,none,false,none,none,none,true,none⟩),
 (170,⟨true,5,none,Gr,[(0,0),(1,0),(2,0),(3,0),(4,0)],some 72,some [(0,1),(1,1),(2,1),(3,1),(4,1)],false,none,none,none,false,none⟩),
 (179,⟨true,4,none,uk,[(0,0),(1,0),(2,0),(3,0)],some 32,some [(0,1),(1,1),(2,1),(3,1)],false,some [some .i64,some .i64,some .i64,some .i64],none,none,false,none⟩),
 (181,⟨true,4,none,V2,[(0,0),(1,0),(2,0),(3,0)],some 32,some [(0,1),(1,1),(2,1),(3,1)],false,none,none,none,false,none⟩),
 (194,⟨true,4,none,Gs,[(0,0),(1,0),(2,0),(3,0)],some 32,some [(0,1),(1,1),(2,1),(3,1)],false,none,none,none,false,none⟩),
 (196,⟨true,4,none,V3,[(0,0),(1,0),(2,0),(3,0)],some 32,some [(0,1),(1,1),(2,1),(3,1)],false,none,none,none,false,none⟩),
 (198,⟨false,1,none,V4,[],some 8,none,false,none,none,none,false,some 271⟩),
 (201,⟨false,1,none,.bool,[],none,none,false,none,none,none,true,none⟩),
 (204,⟨false,1,none,.bool,[],none,none,false,none,none,none,true,none⟩),
 (220,⟨false,1,none,.bool,[],none,none,false,none,some ⟨3,3,.int,.int⟩,none,false,none⟩),
 (236,⟨true,3,none,W7,[(0,0),(1,0),(2,0)],some 24,some [(0,1),(1,1),(2,1)],false,none,none,none,false,none⟩),
 (243,⟨false,1,none,.bool,[],none,none,false,none,none,none,true,none⟩),
 (245,⟨true,3,none,W8,[(0,0),(1,0),(2,0)],some 24,some [(0,1),(1,1),(2,1)],false,none,none,none,false,none⟩),
 (257,⟨false,1,some 258,Xp,[],some 24,none,false,none,none,none,false,none⟩),
 (258,⟨false,1,some 263,Mx,[],some 24,none,false,none,none,none,false,none⟩),
 (261,⟨true,2,none,Ds,[(0,0),(1,0)],some 16,some [(0,1),(1,1)],false,none,none,none,false,none⟩),
 (263,⟨true,4,none,Un,[(0,1),(2,0),(3,0)],some 32,some [(0,2),(2,1),(3,1)],false,none,none,none,false,none⟩),
 (265,⟨true,2,none,V0,[(0,0),(1,0)],some 16,some [(0,1),(1,1)],false,none,none,none,false,none⟩),
 (267,⟨false,1,some 198,Vt,[],some 24,none,false,none,none,none,false,none⟩),
 (271,⟨true,5,none,Xq,[(0,3),(4,0)],some 56,some [(0,4),(4,1)],false,none,none,none,false,none⟩),
 (283,⟨false,1,none,Uo,[],some 8,none,false,none,none,some (some .u64),false,none⟩),
 (311,⟨false,1,some 313,Xa,[],some 24,none,false,none,none,none,false,none⟩),
 (313,⟨false,1,some 315,V5,[],some 24,none,false,none,none,none,false,none⟩),
 (315,⟨true,4,none,W9,[(0,1),(2,0),(3,0)],some 32,some [(0,2),(2,1),(3,1)],false,none,none,none,false,none⟩),
 (319,⟨false,1,none,Up,[],some 4,none,false,none,none,some (some .u32),false,none⟩),
 (322,⟨false,1,none,Uq,[],some 8,none,false,none,none,some (some .u64),false,none⟩),
 (362,⟨false,1,none,.bool,[],none,none,false,none,none,none,true,none⟩)]
theorem al:TTok Tryz.prog tt:=⟨wU (n:=1) (z:=.int .i64 0) ⟨⟨_,Tryz.underlying3,rfl⟩,by kernel_rfl⟩ rfl (by unfold TZ;kernel_rfl) rfl (Nat.le_of_ble_eq_true rfl) (fun h=>by cases h) (fun k h=>by obtain rfl:=Option.some.inj h;exact Tryz.underlying3),
 wU (n:=1) (z:=.bool false) ⟨⟨_,Tryz.underlying4,rfl⟩,by kernel_rfl⟩ rfl (by unfold TZ;kernel_rfl) rfl (Nat.le_of_ble_eq_true rfl) (fun h=>Tryz.underlying4) (fun k h=>by cases h),
 px ⟨⟨_,Tryz.underlying22,rfl⟩,by kernel_rfl⟩ Tryz.underlying22 (by unfold TZ;kernel_rfl),
 px ⟨⟨_,Tryz.underlying23,rfl⟩,by kernel_rfl⟩ Tryz.underlying23 (by unfold TZ;kernel_rfl),
 nl (z:=.agg #[.int .i64 0,.slice none 0 0,.slice none 0 0]) ⟨⟨_,Tryz.underlying29,rfl⟩,by kernel_rfl⟩ rfl ⟨⟨_,_,Tryz.underlying29,rfl,rfl,by kernel_rfl⟩,⟨_,_,Tryz.underlying29,rfl,rfl,by kernel_rfl⟩,⟨_,_,Tryz.underlying29,rfl,rfl,by kernel_rfl⟩,trivial⟩ (by unfold TZ;kernel_rfl) rfl (Nat.le_of_ble_eq_true rfl) ⟨_,Tryz.underlying29,by kernel_rfl⟩ (fun ks h=>by cases h),
 px ⟨⟨_,Tryz.underlying39,rfl⟩,by kernel_rfl⟩ Tryz.underlying39 (by unfold TZ;kernel_rfl),
 px ⟨⟨_,Tryz.underlying51,rfl⟩,by kernel_rfl⟩ Tryz.underlying51 (by unfold TZ;kernel_rfl),
 nl (z:=.agg #[.slice none 0 0]) ⟨⟨_,Tryz.underlying53,rfl⟩,by kernel_rfl⟩ rfl ⟨⟨_,_,Tryz.underlying53,rfl,rfl,by kernel_rfl⟩,trivial⟩ (by unfold TZ;kernel_rfl) rfl (Nat.le_of_ble_eq_true rfl) ⟨_,Tryz.underlying53,by kernel_rfl⟩ (fun ks h=>by cases h),
 px ⟨⟨_,Tryz.underlying56,rfl⟩,by kernel_rfl⟩ Tryz.underlying56 (by unfold TZ;kernel_rfl),
 nl (z:=.agg #[.slice none 0 0]) ⟨⟨_,Tryz.underlying58,rfl⟩,by kernel_rfl⟩ rfl ⟨⟨_,_,Tryz.underlying58,rfl,rfl,by kernel_rfl⟩,trivial⟩ (by unfold TZ;kernel_rfl) rfl (Nat.le_of_ble_eq_true rfl) ⟨_,Tryz.underlying58,by kernel_rfl⟩ (fun ks h=>by cases h),
 px ⟨⟨_,Tryz.underlying62,rfl⟩,by kernel_rfl⟩ Tryz.underlying62 (by unfold TZ;kernel_rfl),
 nl (z:=.agg #[.slice none 0 0,.slice none 0 0]) ⟨⟨_,Tryz.underlying64,rfl⟩,by kernel_rfl⟩ rfl ⟨⟨_,_,Tryz.underlying64,rfl,rfl,by kernel_rfl⟩,⟨_,_,Tryz.underlying64,rfl,rfl,by kernel_rfl⟩,trivial⟩ (by unfold TZ;kernel_rfl) rfl (Nat.le_of_ble_eq_true rfl) ⟨_,Tryz.underlying64,by kernel_rfl⟩ (fun ks h=>by cases h),
 px ⟨⟨_,Tryz.underlying65,rfl⟩,by kernel_rfl⟩ Tryz.underlying65 (by unfold TZ;kernel_rfl),
 px ⟨⟨_,Tryz.underlying66,rfl⟩,by kernel_rfl⟩ Tryz.underlying66 (by unfold TZ;kernel_rfl),
 px ⟨⟨_,Tryz.underlying71,rfl⟩,by kernel_rfl⟩ Tryz.underlying71 (by unfold TZ;kernel_rfl),
 nl (z:=.agg #[.slice none 0 0,.slice none 0 0]) ⟨⟨_,Tryz.underlying73,rfl⟩,by kernel_rfl⟩ rfl ⟨⟨_,_,Tryz.underlying73,rfl,rfl,by kernel_rfl⟩,⟨_,_,Tryz.underlying73,rfl,rfl,by kernel_rfl⟩,trivial⟩ (by unfold TZ;kernel_rfl) rfl (Nat.le_of_ble_eq_true rfl) ⟨_,Tryz.underlying73,by kernel_rfl⟩ (fun ks h=>by cases h),
 px ⟨⟨_,Tryz.underlying75,rfl⟩,by kernel_rfl⟩ Tryz.underlying75 (by unfold TZ;kernel_rfl),
 px ⟨⟨_,Tryz.underlying77,rfl⟩,by kernel_rfl⟩ Tryz.underlying77 (by unfold TZ;kernel_rfl),
 Ej (ty:=.bool) (b:=8) ⟨⟨_,Tryz.underlying94,rfl⟩,by kernel_rfl⟩ rfl (by unfold TZ;kernel_rfl),
 px ⟨⟨_,Tryz.underlying119,rfl⟩,by kernel_rfl⟩ Tryz.underlying119 (by unfold TZ;kernel_rfl),
 nl (z:=.agg #[.int .i64 0,.slice none 0 0]) ⟨⟨_,Tryz.underlying121,rfl⟩,by kernel_rfl⟩ rfl ⟨⟨_,_,Tryz.underlying121,rfl,rfl,by kernel_rfl⟩,⟨_,_,Tryz.underlying121,rfl,rfl,by kernel_rfl⟩,trivial⟩ (by unfold TZ;kernel_rfl) rfl (Nat.le_of_ble_eq_true rfl) ⟨_,Tryz.underlying121,by kernel_rfl⟩ (fun ks h=>by cases h),
 nl (z:=.agg #[.int .i64 0,.int .i64 0]) ⟨⟨_,Tryz.underlying128,rfl⟩,by kernel_rfl⟩ rfl ⟨⟨_,_,Tryz.underlying128,rfl,rfl,by kernel_rfl⟩,⟨_,_,Tryz.underlying128,rfl,rfl,by kernel_rfl⟩,trivial⟩ (by unfold TZ;kernel_rfl) rfl (Nat.le_of_ble_eq_true rfl) ⟨_,Tryz.underlying128,by kernel_rfl⟩ (fun ks h=>by obtain rfl:=Option.some.inj h;exact fun w a0 b0 a1 b1=>Ur a0 a1 b0 b1 w),
 px ⟨⟨_,Tryz.underlying129,rfl⟩,by kernel_rfl⟩ Tryz.underlying129 (by unfold TZ;kernel_rfl),
 nl (z:=.agg #[.int .i64 0,.slice none 0 0]) ⟨⟨_,Tryz.underlying131,rfl⟩,by kernel_rfl⟩ rfl ⟨⟨_,_,Tryz.underlying131,rfl,rfl,by kernel_rfl⟩,⟨_,_,Tryz.underlying131,rfl,rfl,by kernel_rfl⟩,trivial⟩ (by unfold TZ;kernel_rfl) rfl (Nat.le_of_ble_eq_true rfl) ⟨_,Tryz.underlying131,by kernel_rfl⟩ (fun ks h=>by cases h),
 nl (z:=.agg #[.int .i64 0,.int .i64 0]) ⟨⟨_,Tryz.underlying136,rfl⟩,by kernel_rfl⟩ rfl ⟨⟨_,_,Tryz.underlying136,rfl,rfl,by kernel_rfl⟩,⟨_,_,Tryz.underlying136,rfl,rfl,by kernel_rfl⟩,trivial⟩ (by unfold TZ;kernel_rfl) rfl (Nat.le_of_ble_eq_true rfl) ⟨_,Tryz.underlying136,by kernel_rfl⟩ (fun ks h=>by cases h),
 Ej (ty:=.bool) (b:=8) ⟨⟨_,Tryz.underlying144,rfl⟩,by kernel_rfl⟩ rfl (by unfold TZ;kernel_rfl),
 Ej (ty:=.bool) (b:=8) ⟨⟨_,Tryz.underlying147,rfl⟩,by kernel_rfl⟩ rfl (by unfold TZ;kernel_rfl),
 nl (z:=.agg #[.slice none 0 0,.int .i64 0,.int .i64 0,.slice none 0 0,.bool false]) ⟨⟨_,Tryz.underlying170,rfl⟩,by kernel_rfl⟩ rfl ⟨⟨_,_,Tryz.underlying170,rfl,rfl,by kernel_rfl⟩,⟨_,_,Tryz.underlying170,rfl,rfl,by kernel_rfl⟩,⟨_,_,Tryz.underlying170,rfl,rfl,by kernel_rfl⟩,⟨_,_,Tryz.underlying170,rfl,rfl,by kernel_rfl⟩,⟨_,_,Tryz.underlying170,rfl,rfl,by kernel_rfl⟩,trivial⟩ (by unfold TZ;kernel_rfl) rfl (Nat.le_of_ble_eq_true rfl) ⟨_,Tryz.underlying170,by kernel_rfl⟩ (fun ks h=>by cases h),
 nl (z:=.agg #[.int .i64 0,.int .i64 0,.int .i64 0,.int .i64 0]) ⟨⟨_,Tryz.underlying179,rfl⟩,by kernel_rfl⟩ rfl ⟨⟨_,_,Tryz.underlying179,rfl,rfl,by kernel_rfl⟩,⟨_,_,Tryz.underlying179,rfl,rfl,by kernel_rfl⟩,⟨_,_,Tryz.underlying179,rfl,rfl,by kernel_rfl⟩,⟨_,_,Tryz.underlying179,rfl,rfl,by kernel_rfl⟩,trivial⟩ (by unfold TZ;kernel_rfl) rfl (Nat.le_of_ble_eq_true rfl) ⟨_,Tryz.underlying179,by kernel_rfl⟩ (fun ks h=>by obtain rfl:=Option.some.inj h;exact fun w a0 b0 a1 b1 a2 b2 a3 b3=>Us a0 a1 a2 a3 b0 b1 b2 b3 w),
 nl (z:=.agg #[.int .i64 0,.int .i64 0,.int .i64 0,.int .i64 0]) ⟨⟨_,Tryz.underlying181,rfl⟩,by kernel_rfl⟩ rfl ⟨⟨_,_,Tryz.underlying181,rfl,rfl,by kernel_rfl⟩,⟨_,_,Tryz.underlying181,rfl,rfl,by kernel_rfl⟩,⟨_,_,Tryz.underlying181,rfl,rfl,by kernel_rfl⟩,⟨_,_,Tryz.underlying181,rfl,rfl,by kernel_rfl⟩,trivial⟩ (by unfold TZ;kernel_rfl) rfl (Nat.le_of_ble_eq_true rfl) ⟨_,Tryz.underlying181,by kernel_rfl⟩ (fun ks h=>by cases h),
 nl (z:=.agg #[.int .i64 0,.int .i64 0,.int .i64 0,.int .i64 0]) ⟨⟨_,Tryz.underlying194,rfl⟩,by kernel_rfl⟩ rfl ⟨⟨_,_,Tryz.underlying194,rfl,rfl,by kernel_rfl⟩,⟨_,_,Tryz.underlying194,rfl,rfl,by kernel_rfl⟩,⟨_,_,Tryz.underlying194,rfl,rfl,by kernel_rfl⟩,⟨_,_,Tryz.underlying194,rfl,rfl,by kernel_rfl⟩,trivial⟩ (by unfold TZ;kernel_rfl) rfl (Nat.le_of_ble_eq_true rfl) ⟨_,Tryz.underlying194,by kernel_rfl⟩ (fun ks h=>by cases h),
 nl (z:=.agg #[.int .i64 0,.int .i64 0,.int .i64 0,.int .i64 0]) ⟨⟨_,Tryz.underlying196,rfl⟩,by kernel_rfl⟩ rfl ⟨⟨_,_,Tryz.underlying196,rfl,rfl,by kernel_rfl⟩,⟨_,_,Tryz.underlying196,rfl,rfl,by kernel_rfl⟩,⟨_,_,Tryz.underlying196,rfl,rfl,by kernel_rfl⟩,⟨_,_,Tryz.underlying196,rfl,rfl,by kernel_rfl⟩,trivial⟩ (by unfold TZ;kernel_rfl) rfl (Nat.le_of_ble_eq_true rfl) ⟨_,Tryz.underlying196,by kernel_rfl⟩ (fun ks h=>by cases h),
 VZ (e:=271) (E:=198) (u:=uk) ⟨⟨_,Tryz.underlying198,rfl⟩,by kernel_rfl⟩ Tryz.underlying198 (by unfold TZ;kernel_rfl),
 Ej (ty:=.bool) (b:=8) ⟨⟨_,Tryz.underlying201,rfl⟩,by kernel_rfl⟩ rfl (by unfold TZ;kernel_rfl),
 Ej (ty:=.bool) (b:=8) ⟨⟨_,Tryz.underlying204,rfl⟩,by kernel_rfl⟩ rfl (by unfold TZ;kernel_rfl),
 VY (m:=⟨3,3,.int,.int⟩) (ty:=.bool) ⟨⟨_,Tryz.underlying220,rfl⟩,by kernel_rfl⟩ rfl ⟨Tryz.underlying220,kk3,ek3⟩,
 nl (z:=.agg #[.bool false,.int .i64 0,.int .i64 0]) ⟨⟨_,Tryz.underlying236,rfl⟩,by kernel_rfl⟩ rfl ⟨⟨_,_,Tryz.underlying236,rfl,rfl,by kernel_rfl⟩,⟨_,_,Tryz.underlying236,rfl,rfl,by kernel_rfl⟩,⟨_,_,Tryz.underlying236,rfl,rfl,by kernel_rfl⟩,trivial⟩ (by unfold TZ;kernel_rfl) rfl (Nat.le_of_ble_eq_true rfl) ⟨_,Tryz.underlying236,by kernel_rfl⟩ (fun ks h=>by cases h),
 Ej (ty:=.bool) (b:=8) ⟨⟨_,Tryz.underlying243,rfl⟩,by kernel_rfl⟩ rfl (by unfold TZ;kernel_rfl),
 nl (z:=.agg #[.int .i64 0,.int .i64 0,.bool false]) ⟨⟨_,Tryz.underlying245,rfl⟩,by kernel_rfl⟩ rfl ⟨⟨_,_,Tryz.underlying245,rfl,rfl,by kernel_rfl⟩,⟨_,_,Tryz.underlying245,rfl,rfl,by kernel_rfl⟩,⟨_,_,Tryz.underlying245,rfl,rfl,by kernel_rfl⟩,trivial⟩ (by unfold TZ;kernel_rfl) rfl (Nat.le_of_ble_eq_true rfl) ⟨_,Tryz.underlying245,by kernel_rfl⟩ (fun ks h=>by cases h),
 px ⟨⟨_,Tryz.underlying257,rfl⟩,by kernel_rfl⟩ Tryz.underlying257 (by unfold TZ;kernel_rfl),
 px ⟨⟨_,Tryz.underlying258,rfl⟩,by kernel_rfl⟩ Tryz.underlying258 (by unfold TZ;kernel_rfl),
 nl (z:=.agg #[.int .i64 0,.bool false]) ⟨⟨_,Tryz.underlying261,rfl⟩,by kernel_rfl⟩ rfl ⟨⟨_,_,Tryz.underlying261,rfl,rfl,by kernel_rfl⟩,⟨_,_,Tryz.underlying261,rfl,rfl,by kernel_rfl⟩,trivial⟩ (by unfold TZ;kernel_rfl) rfl (Nat.le_of_ble_eq_true rfl) ⟨_,Tryz.underlying261,by kernel_rfl⟩ (fun ks h=>by cases h),
 nl (z:=.agg #[.int .i64 0,.bool false,.int .i64 0,.int .i64 0]) ⟨⟨_,Tryz.underlying263,rfl⟩,by kernel_rfl⟩ rfl ⟨⟨_,_,Tryz.underlying263,rfl,rfl,by kernel_rfl⟩,⟨_,_,Tryz.underlying263,rfl,rfl,by kernel_rfl⟩,⟨_,_,Tryz.underlying263,rfl,rfl,by kernel_rfl⟩,trivial⟩ (by unfold TZ;kernel_rfl) rfl (Nat.le_of_ble_eq_true rfl) ⟨_,Tryz.underlying263,by kernel_rfl⟩ (fun ks h=>by cases h),
 nl (z:=.agg #[.int .i64 0,.bool false]) ⟨⟨_,Tryz.underlying265,rfl⟩,by kernel_rfl⟩ rfl ⟨⟨_,_,Tryz.underlying265,rfl,rfl,by kernel_rfl⟩,⟨_,_,Tryz.underlying265,rfl,rfl,by kernel_rfl⟩,trivial⟩ (by unfold TZ;kernel_rfl) rfl (Nat.le_of_ble_eq_true rfl) ⟨_,Tryz.underlying265,by kernel_rfl⟩ (fun ks h=>by cases h),
 px ⟨⟨_,Tryz.underlying267,rfl⟩,by kernel_rfl⟩ Tryz.underlying267 (by unfold TZ;kernel_rfl),
 nl (z:=.agg #[.int .i64 0,.int .i64 0,.int .i64 0,.int .i64 0,.slice none 0 0]) ⟨⟨_,Tryz.underlying271,rfl⟩,by kernel_rfl⟩ rfl ⟨⟨_,_,Tryz.underlying271,rfl,rfl,by kernel_rfl⟩,⟨_,_,Tryz.underlying271,rfl,rfl,by kernel_rfl⟩,trivial⟩ (by unfold TZ;kernel_rfl) rfl (Nat.le_of_ble_eq_true rfl) ⟨_,Tryz.underlying271,by kernel_rfl⟩ (fun ks h=>by cases h),
 wU (n:=1) (z:=.int .u64 0) ⟨⟨_,Tryz.underlying283,rfl⟩,by kernel_rfl⟩ rfl (by unfold TZ;kernel_rfl) rfl (Nat.le_of_ble_eq_true rfl) (fun h=>by cases h) (fun k h=>by obtain rfl:=Option.some.inj h;exact Tryz.underlying283),
 px ⟨⟨_,Tryz.underlying311,rfl⟩,by kernel_rfl⟩ Tryz.underlying311 (by unfold TZ;kernel_rfl),
 px ⟨⟨_,Tryz.underlying313,rfl⟩,by kernel_rfl⟩ Tryz.underlying313 (by unfold TZ;kernel_rfl),
 nl (z:=.agg #[.int .i64 0,.bool false,.int .i64 0,.int .i64 0]) ⟨⟨_,Tryz.underlying315,rfl⟩,by kernel_rfl⟩ rfl ⟨⟨_,_,Tryz.underlying315,rfl,rfl,by kernel_rfl⟩,⟨_,_,Tryz.underlying315,rfl,rfl,by kernel_rfl⟩,⟨_,_,Tryz.underlying315,rfl,rfl,by kernel_rfl⟩,trivial⟩ (by unfold TZ;kernel_rfl) rfl (Nat.le_of_ble_eq_true rfl) ⟨_,Tryz.underlying315,by kernel_rfl⟩ (fun ks h=>by cases h),
 wU (n:=1) (z:=.int .u32 0) ⟨⟨_,Tryz.underlying319,rfl⟩,by kernel_rfl⟩ rfl (by unfold TZ;kernel_rfl) rfl (Nat.le_of_ble_eq_true rfl) (fun h=>by cases h) (fun k h=>by obtain rfl:=Option.some.inj h;exact Tryz.underlying319),
 wU (n:=1) (z:=.int .u64 0) ⟨⟨_,Tryz.underlying322,rfl⟩,by kernel_rfl⟩ rfl (by unfold TZ;kernel_rfl) rfl (Nat.le_of_ble_eq_true rfl) (fun h=>by cases h) (fun k h=>by obtain rfl:=Option.some.inj h;exact Tryz.underlying322),
 Ej (ty:=.bool) (b:=8) ⟨⟨_,Tryz.underlying362,rfl⟩,by kernel_rfl⟩ rfl (by unfold TZ;kernel_rfl),trivial⟩
theorem mixed:Tryz.prog.follows .mixedOrders=true:=by kernel_rfl
def uW:FS:=⟨[.rd y51,.rd y3],[y3],pQ,none⟩
def zi:FS:=⟨[.rd y53,.rd y3],[y3],qH,none⟩
def wX:FS:=⟨[.rd V2],[uk],oB,none⟩
def uX:FS:=⟨[.rd y51],[y56],mJ,none⟩
def zj:FS:=⟨[.rd y53],[y58],lG,none⟩
def wY:FS:=⟨[.rd uk,.rd uk],[y4],oC,none⟩
def uY:FS:=⟨[.rd y56,.rd y56],[y4],pR,none⟩
def zk:FS:=⟨[.rd y58,.rd y58],[y4],qI,none⟩
def zm:FS:=⟨[.rd y39,.rd y3],[y3],ug,none⟩
def wZ:FS:=⟨[.rd y62,.rd y3],[y3],rM,none⟩
def w4:FS:=⟨[.rd y64,.rd y3],[y3],oD,none⟩
def w5:FS:=⟨[.rd y65,.rd y3],[y3],rN,none⟩
def w6:FS:=⟨[.rd Vr,.rd y3],[y3],rO,none⟩
def zn:FS:=⟨[.rd Vs,.rd y3],[y3],qJ,none⟩
def w7:FS:=⟨[.rd y66,.rd y3],[y3],rP,none⟩
def rX:FS:=⟨[.rd y39,.rd y3],[y3],lS,none⟩
def rk:FS:=⟨[],[y29],np,none⟩
def ta:FS:=⟨[.rd y29,.rd y39,.rd y22],[y29],gA,none⟩
def rY:FS:=⟨[.rd y29],[y22],jQ,none⟩
def zo:FS:=⟨[.rd y29,.rd y39,.rd y3],[y39],nI,none⟩
def CI:FS:=⟨[.rd y39,.rd y39],[y3],pS,none⟩
def rl:FS:=⟨[.rd y29],[y39],gV,none⟩
def pV:FS:=⟨[.rd y29],[y29],fR,none⟩
def iy:FS:=⟨[.rd y3,.rd y3,.rd y3],[y4],bG,none⟩
def uZ:FS:=⟨[.rd y3],[y4],mL,none⟩
def rZ:FS:=⟨[.rd uk],[y3],lT,none⟩
def zp:FS:=⟨[.rd y58],[y4],qK,none⟩
def mb:FS:=⟨[.rd y58],[y4],fS,none⟩
def mc:FS:=⟨[.rd y56],[y3],dN,none⟩
def oQ (n:Nat):FS:=⟨[.rd y56],[y3],dj n,none⟩
def zq:FS:=⟨[.rd y56],[y58],ui,none⟩
def um:FS:=⟨[.rd y58,.rd y58,.rd uk],[y58],jS,none⟩
def zr:FS:=⟨[.rd y3],[y58],nJ,none⟩
def mN (n:Nat):FS:=⟨[.rd y58,.rd y3,.rd y3],[y58],iK n,none⟩
def lA (n:Nat):FS:=⟨[.rd y56],[y58],bQ n,none⟩
def rp:FS:=⟨[.rd y58],[y58,y4],kj,none⟩
def w8:FS:=⟨[.ptr 170 Gr,.rd y3,.rd y3],[],lU,none⟩
def mO (n:Nat):FS:=⟨[.ptr 170 Gr,.rd y56],[W7],cD n,none⟩
def mP:FS:=⟨[.rd y58],[Gr,y4],fD,none⟩
def vc:FS:=⟨[.rd Gr,.rd y3,.rd y3],[y3],mM,none⟩
def rq:FS:=⟨[.rd Gr,.rd y3],[y4],kl,none⟩
def rr:FS:=⟨[.rd Gr,.rd y3],[y29,y4],gX,none⟩
def pW:FS:=⟨[.rd y58],[y29,y4],je,none⟩
def zt:FS:=⟨[.rd y73,.rd Gs],[y4],zh,none⟩
def dE:FS:=⟨[.rd y73],[y4],aI,none⟩
def dX:FS:=⟨[.rd y3],[y75],b7,none⟩
def sd:FS:=⟨[.rd jJ,.rd jJ],[y4],jT,none⟩
def nP:FS:=⟨[.eat (.sl 128 jJ),.rd jJ],[y75],fu,none⟩
def w9:FS:=⟨[.rd y73,.rd y3,.rd y3],[y4],oF,none⟩
def mQ:FS:=⟨[.rd y73,.rd y3],[y75],fE,none⟩
def dY:FS:=⟨[.rd y75,.rd y75],[y75],b8,none⟩
def kD:FS:=⟨[.rd y75,.rd y75],[y75],fv,none⟩
def mR:FS:=⟨[.rd y75],[y4],dI,none⟩
def me:FS:=⟨[.rd y3,.rd y75],[y75],eZ,none⟩
def nQ:FS:=⟨[.rd y3,.rd y75,.rd y3,.rd y3],[y75],gD,none⟩
def oR (n:Nat):FS:=⟨[.rd y73,.rd y56],[y75],cv n,none⟩
def pd:FS:=⟨[.rd y73,.rd y58],[y75,y4],ir,none⟩
def zu:FS:=⟨[.rd y75,.rd jJ],[y4],qL,none⟩
def nR:FS:=⟨[.rd y75,.rd y75],[y75],eH,none⟩
def xa:FS:=⟨[.rd y29],[y4],lX,none⟩
def gK:FS:=⟨[.rd y29],[y4],bC,none⟩
def lB:FS:=⟨[.rd y73,.rd y3],[y3],bd,none⟩
def se:FS:=⟨[.rd y73,.rd CH],[y39,y4],iF,none⟩
def sf:FS:=⟨[.rd y73,.rd CH],[y3],oG,none⟩
def pX:FS:=⟨[.rd y73,.rd CH],[y4],lY,none⟩
def kE:FS:=⟨[.rd y29,.rd y3,.rd y3],[y3],cA,none⟩
def oS:FS:=⟨[.rd Gs,.rd y4],[y3],bt,none⟩
def xb:FS:=⟨[.rd Gs,.rd y4],[y3],fl,none⟩
def xc:FS:=⟨[.rd y73,.rd y29,.rd y3,.rd y3,.rd Ds],[y3,y3],lZ,none⟩
def vd:FS:=⟨[.rd y73,.rd y29,.rd CH],[y39],pT,none⟩
def nt:FS:=⟨[.rd y73,.rd y29,.rd y3,.rd y3],[y4],fx,none⟩
def xd:FS:=⟨[.rd y73,.rd y29,.rd y3,.rd y3],[y4],l5,none⟩
def pY:FS:=⟨[.rd y73,.rd y29,.rd CH],[y4],l6,none⟩
def tc:FS:=⟨[.rd y73,.rd y29,.rd y3,.rd y3,.rd CH],[y4],lq,none⟩
def xe:FS:=⟨[.rd y73,.rd y29,.rd y3,.rd y3],[y4],jV,none⟩
def zw:FS:=⟨[.rd y73,.rd y3],[Tg],nK,none⟩
def ve:FS:=⟨[.rd y73,.rd y29,.rd y3,.rd y3],[Mx],kK,none⟩
def xf:FS:=⟨[.rd y73,.rd y29,.rd y3],[y39],oH,none⟩
def mS:FS:=⟨[.rd y73,.rd y29,.rd y3,.rd y3],[y3],fF,none⟩
def pe:FS:=⟨[.rd y73,.rd y58,.rd y75,.rd y77],[y3],iu,none⟩
def zx:FS:=⟨[.rd y39],[y39],qM,none⟩
def zy:FS:=⟨[.rd V3],[Gs],qN,none⟩
def xg:FS:=⟨[.rd y62],[y71],oJ,none⟩
def xh:FS:=⟨[.rd y64],[y73],jW,none⟩
def zz:FS:=⟨[.rd V1],[jJ],qO,none⟩
def xi:FS:=⟨[.rd y65],[y75],jX,none⟩
def zA:FS:=⟨[.rd V0],[Ds],qP,none⟩
def xj:FS:=⟨[.rd Vr],[Tg],oK,none⟩
def zB:FS:=⟨[.rd Vs],[CH],qQ,none⟩
def xk:FS:=⟨[.rd y66],[y77],jY,none⟩
def dF:FS:=⟨[.rd y3,.rd y3,.rd y3],[y4],aS,none⟩
def kO:FS:=⟨[.rd y3],[y4],eS,none⟩
def xl:FS:=⟨[.rd uk],[y4],oL,none⟩
def aU:FS:=⟨[.rd Vt],[Vt],fun _=>none,some (198,8)⟩
def nS:FS:=⟨[.rd y58],[t198],jZ,none⟩
def zC:FS:=⟨[.rd y58],[y4],qR,none⟩
def mf:FS:=⟨[.rd y58],[y4],fZ,none⟩
def kF (n:Nat):FS:=⟨[.rd t198],[y3],a8 n,none⟩
def Gt:FS:=⟨[.rd y3],[t198],AS,none⟩
def mT (n:Nat):FS:=⟨[.eat t198,.rd y3,.rd y3],[t198],iL n,none⟩
def jo (n:Nat):FS:=⟨[.rd t198],[t198],aP n,none⟩
def iz (n:Nat):FS:=⟨[.rd t198,.ptr 58 y58],[],aN n,none⟩
def te:FS:=⟨[.rd t198],[y58],oN,none⟩
def ru:FS:=⟨[.rd y58],[y58,y4],ky,none⟩
def kZ:FS:=⟨[.ptr 170 Gr,.rd y3,.rd y3],[],c8,none⟩
def fg (n:Nat):FS:=⟨[.ptr 170 Gr,.rd t198],[W8],aQ n,none⟩
def mU:FS:=⟨[.rd y58],[Gr,y4],fG,none⟩
def kV:FS:=⟨[.rd y3,.rd y3,.fn [y3] [y4],.fn [y3,y3] [y3,y4]],[y29,y4],dC,none⟩
def kP:FS:=⟨[.rd Gr,.rd y3],[y4],cJ,none⟩
def mg:FS:=⟨[.rd Gr,.rd y3,.rd y3],[y3],fa,none⟩
def nT:FS:=⟨[.rd y3,.rd y3,.cap 170 Gr],[y3,y4],cw,none⟩
def pZ:FS:=⟨[.rd Gr,.rd y3],[y29,y4],ga,none⟩
def aY:FS:=⟨[.rd y22],[y22],fun _=>none,some (4,1)⟩
def mV:FS:=⟨[.rd y29],[y22],dJ,none⟩
def dz:FS:=⟨[.rd y23,.fn [y39] [y4]],[y3],bf,none⟩
def gI:FS:=⟨[.rd y39,.rd y39],[y4],dA,none⟩
def jK:FS:=⟨[.rd y39,.cap 39 y39],[y4],fB,none⟩
def k7:FS:=⟨[.rd y29,.rd y39],[y39,y3],c9,none⟩
def kQ:FS:=⟨[.rd y29],[y39],cM,none⟩
def mi:FS:=⟨[.rd Up,.rd Up],[Up,Up],rQ,none⟩
def mj:FS:=⟨[.rd Uq,.rd Uq],[Uq,Uq],l7,none⟩
def nU:FS:=⟨[.rd Uo,.rd Uo],[Uo,Uo],nL,none⟩
def dt:FS:=⟨[.rd y39,.rd y3],[y39],bs,none⟩
def xm:FS:=⟨[],[y29],rR,none⟩
def gJ:FS:=⟨[.rd y39,.rd y3],[y3],dB,none⟩
def iM:FS:=⟨[.rd y3,.cap 39 y39],[y3],aC,none⟩
def iN:FS:=⟨[.rd y3,.cap 29 y29,.capf 144 [y3] [y3]],[y4],bM,none⟩
def fJ:FS:=⟨[.rd y29,.rd y3,.rd y3],[y3],aO,none⟩
def iO:FS:=⟨[.rd y3,.rd y3,.cap 29 y29,.capf 144 [y3] [y3],.cap 39 y39],[y3,y4],bN,none⟩
def jL:FS:=⟨[.rd y29],[y29],ct,none⟩
def CJ:FS:=⟨[.rd y29],[y29,y4],wV,none⟩
def p7:FS:=⟨[.rd y58],[y29,y4],jg,none⟩
def zD:FS:=⟨[.rd Gs,.rd y3],[y4],nM,none⟩
def cY:FS:=⟨[.rd y73],[y4],ay,none⟩
def dZ:FS:=⟨[.rd y3],[y75],b9,none⟩
def p8:FS:=⟨[.rd y3,.rd y3],[y3],jh,none⟩
def kW:FS:=⟨[.rd jJ,.rd jJ],[y3],fm,none⟩
def eN:FS:=⟨[.ow (.sl 128 jJ),.fk 178],[],cy,none⟩
def eV:FS:=⟨[.eat (.sl 128 jJ)],[.sl 128 jJ],bE,none⟩
def mn:FS:=⟨[.rd y75],[y75],gf,none⟩
def xn:FS:=⟨[.rd Gs,.rd y4],[y3],l8,none⟩
def AT:FS:=⟨[.rd y73],[Xa],qS,none⟩
def xo:FS:=⟨[.rd y73,.rd y3,.rd y3],[y4],oO,none⟩
def mW:FS:=⟨[.rd y73,.rd y3],[y75],fH,none⟩
def eh:FS:=⟨[.rd y75,.rd y75],[y75],cd,none⟩
def kG:FS:=⟨[.rd y75,.rd y75],[y75],fy,none⟩
def mX:FS:=⟨[.rd y75],[y4],eU,none⟩
def mo:FS:=⟨[.rd y3,.rd y75],[y75],fb,none⟩
def nV:FS:=⟨[.rd y3,.rd y75,.rd y3,.rd y3],[y75],gE,none⟩
def gG (n:Nat):FS:=⟨[.rd t198,.rd y73],[y75],aL n,none⟩
def pf:FS:=⟨[.rd y73,.rd y58],[y75,y4],iw,none⟩
def dQ:FS:=⟨[.rd y75,.fn [jJ] [y4]],[y3],aZ,none⟩
def dL:FS:=⟨[.eat (.sl 128 jJ),.fn [jJ] [y4]],[.sl 128 jJ],bm,none⟩
def fK:FS:=⟨[.rd y75,.rd jJ],[y3],bO,none⟩
def eO:FS:=⟨[.rd y75,.rd jJ],[y4],bw,none⟩
def mq:FS:=⟨[.rd jJ,.cap 75 y75],[y4],iG,none⟩
def nW:FS:=⟨[.rd y75,.rd y75],[y75],eL,none⟩
def dR:FS:=⟨[.rd y71,.fn [Gs] [y4]],[y3],cm,none⟩
def p9:FS:=⟨[.rd Gs,.cap 3 y3],[y4],ji,none⟩
def tf:FS:=⟨[.rd y73,.rd y3],[y3],gF,none⟩
def qa:FS:=⟨[.rd y73,.rd Ds],[Gs,y4],gh,none⟩
def qb:FS:=⟨[.rd y73,.rd Ds],[y3],gi,none⟩
def zF:FS:=⟨[.rd y73,.rd Ds],[y3],nO,none⟩
def sg:FS:=⟨[.rd y73,.rd CH],[y39,y4],iH,none⟩
def xp:FS:=⟨[.rd y73,.rd CH],[y3],rS,none⟩
def gL:FS:=⟨[.rd y29],[y4],bg,none⟩
def oT:FS:=⟨[.rd y3],[y39],gj,none⟩
def si:FS:=⟨[.rd y29,.rd y3,.rd y3],[y3],cW,none⟩
def xq:FS:=⟨[.rd y29,.rd y3,.rd y3,.rd y3],[y3],gk,none⟩
def rv:FS:=⟨[.rd y73,.rd Ds],[y3],ij,none⟩
def CK:FS:=⟨[.rd y73,.rd y29,.rd CH],[y39,y39,y4],wW,none⟩
def oU:FS:=⟨[.rd y29,.rd y3,.rd y3],[y4],df,none⟩
def qc:FS:=⟨[.rd y73,.rd y29,.rd CH],[y4],ma,none⟩
def tg:FS:=⟨[.rd y73,.rd y29,.rd y3,.rd y3,.rd CH],[y4],lu,none⟩
def uo:FS:=⟨[.rd y73,.rd y29,.rd y39],[y4],eM,none⟩
def zG:FS:=⟨[.rd y23,.rd y39],[y39],qT,none⟩
def zH:FS:=⟨[.rd y23],[y23],qU,none⟩
def pg:FS:=⟨[.rd y73,.rd y29],[y23],dD,none⟩
def CL:FS:=⟨[.rd y73,.rd y29,.rd y3],[y39],pU,none⟩
def qd:FS:=⟨[.rd y73,.rd y29,.rd y3],[y39],jn,none⟩
def mY:FS:=⟨[.rd y73,.rd y29,.rd y3,.rd y3],[y3],fI,none⟩
def ph:FS:=⟨[.rd y73,.rd y58,.rd y75,.rd y77],[y3],ix,none⟩
def zI:FS:=⟨[.rd y39,.rd y39],[y4],uj,none⟩
def zJ:FS:=⟨[.rd Gs,.rd Gs],[y4],qV,none⟩
def xr:FS:=⟨[.rd y71,.rd y71],[y4],rT,none⟩
def xt:FS:=⟨[.rd y73,.rd y73],[y4],oP,none⟩
def zK:FS:=⟨[.rd jJ,.rd jJ],[y4],qW,none⟩
def xu:FS:=⟨[.rd y75,.rd y75],[y4],rU,none⟩
def zL:FS:=⟨[.rd Ds,.rd Ds],[y4],qX,none⟩
def xw:FS:=⟨[.rd Tg,.rd Tg],[y4],rV,none⟩
def zM:FS:=⟨[.rd CH,.rd CH],[y4],qY,none⟩
def xx:FS:=⟨[.rd y77,.rd y77],[y4],rW,none⟩
def oV:FS:=⟨[.rd y64,.rd y53,.rd y65,.rd y66],[y4],dg,none⟩
end R
namespace R
open Go.RowKit
open D
theorem CM:FOk Tryz.prog 73 uW:=fok (V:=⟨tt,[],[],12,[]⟩) al trivial mixed Tryz.func73 rfl rfl (enters_of Tryz.func73 (by kernel_rfl) rfl) rfl (Nat.le_of_ble_eq_true rfl) rfl .no (fun d=>by kernel_rfl)
theorem HP:FOk Tryz.prog 24 zi:=fok (V:=⟨tt,[(73,uW)],[],12,[]⟩) al ⟨CM,trivial⟩ mixed Tryz.func24 rfl rfl (enters_of Tryz.func24 (by kernel_rfl) rfl) rfl (Nat.le_of_ble_eq_true rfl) rfl .no (fun d=>by kernel_rfl)
theorem Ek:FOk Tryz.prog 154 wX:=fok (V:=⟨tt,[],[],17,[]⟩) al trivial mixed Tryz.func154 rfl rfl (enters_of Tryz.func154 (by kernel_rfl) rfl) rfl (Nat.le_of_ble_eq_true rfl) rfl .no (fun d=>by kernel_rfl)
theorem CN:FOk Tryz.prog 78 uX:=fok (V:=⟨tt,[(154,wX)],[],23,[]⟩) al ⟨Ek,trivial⟩ mixed Tryz.func78 rfl rfl (enters_of Tryz.func78 (by kernel_rfl) rfl) rfl (Nat.le_of_ble_eq_true rfl) rfl (.two .no (.two .no (.two (.two .no (.loop [.row 3 179 uk,.slot 4 (.num .i64)] .no)) .no))) (fun d=>by kernel_rfl)
theorem HQ:FOk Tryz.prog 26 zj:=fok (V:=⟨tt,[(78,uX)],[],9,[]⟩) al ⟨CN,trivial⟩ mixed Tryz.func26 rfl rfl (enters_of Tryz.func26 (by kernel_rfl) rfl) rfl (Nat.le_of_ble_eq_true rfl) rfl .no (fun d=>by kernel_rfl)
theorem El:FOk Tryz.prog 162 wY:=fok (V:=⟨tt,[],[],25,[]⟩) al trivial mixed Tryz.func162 rfl rfl (enters_of Tryz.func162 (by kernel_rfl) rfl) rfl (Nat.le_of_ble_eq_true rfl) rfl .no (fun d=>by kernel_rfl)
theorem CO:FOk Tryz.prog 83 uY:=fok (V:=⟨tt,[(162,wY)],[],27,[]⟩) al ⟨El,trivial⟩ mixed Tryz.func83 rfl rfl (enters_of Tryz.func83 (by kernel_rfl) rfl) rfl (Nat.le_of_ble_eq_true rfl) rfl (.two .no (.two .no (.two (.two .no (.loop [.slot 5 (.num .i64)] .no)) .no))) (fun d=>by kernel_rfl)
theorem HS:FOk Tryz.prog 28 zk:=fok (V:=⟨tt,[(83,uY)],[],11,[]⟩) al ⟨CO,trivial⟩ mixed Tryz.func28 rfl rfl (enters_of Tryz.func28 (by kernel_rfl) rfl) rfl (Nat.le_of_ble_eq_true rfl) rfl .no (fun d=>by kernel_rfl)
theorem HT:FOk Tryz.prog 84 zm:=fok (V:=⟨tt,[],[],12,[]⟩) al trivial mixed Tryz.func84 rfl rfl (enters_of Tryz.func84 (by kernel_rfl) rfl) rfl (Nat.le_of_ble_eq_true rfl) rfl .no (fun d=>by kernel_rfl)
theorem Em:FOk Tryz.prog 85 wZ:=fok (V:=⟨tt,[],[],12,[]⟩) al trivial mixed Tryz.func85 rfl rfl (enters_of Tryz.func85 (by kernel_rfl) rfl) rfl (Nat.le_of_ble_eq_true rfl) rfl .no (fun d=>by kernel_rfl)
theorem En:FOk Tryz.prog 29 w4:=fok (V:=⟨tt,[(84,zm),(85,wZ)],[],18,[]⟩) al ⟨HT,Em,trivial⟩ mixed Tryz.func29 rfl rfl (enters_of Tryz.func29 (by kernel_rfl) rfl) rfl (Nat.le_of_ble_eq_true rfl) rfl .no (fun d=>by kernel_rfl)
theorem Eo:FOk Tryz.prog 30 w5:=fok (V:=⟨tt,[],[],12,[]⟩) al trivial mixed Tryz.func30 rfl rfl (enters_of Tryz.func30 (by kernel_rfl) rfl) rfl (Nat.le_of_ble_eq_true rfl) rfl .no (fun d=>by kernel_rfl)
theorem Ep:FOk Tryz.prog 163 w6:=fok (V:=⟨tt,[],[],12,[]⟩) al trivial mixed Tryz.func163 rfl rfl (enters_of Tryz.func163 (by kernel_rfl) rfl) rfl (Nat.le_of_ble_eq_true rfl) rfl .no (fun d=>by kernel_rfl)
theorem HU:FOk Tryz.prog 86 zn:=fok (V:=⟨tt,[(163,w6)],[],12,[]⟩) al ⟨Ep,trivial⟩ mixed Tryz.func86 rfl rfl (enters_of Tryz.func86 (by kernel_rfl) rfl) rfl (Nat.le_of_ble_eq_true rfl) rfl .no (fun d=>by kernel_rfl)
theorem Er:FOk Tryz.prog 31 w7:=fok (V:=⟨tt,[(86,zn)],[],27,[]⟩) al ⟨HU,trivial⟩ mixed Tryz.func31 rfl rfl (enters_of Tryz.func31 (by kernel_rfl) rfl) rfl (Nat.le_of_ble_eq_true rfl) rfl (.two .no (.two .no (.two .no (.two (.two .no (.loop [.slot 1 (.num .i64),.slot 5 (.num .i64)] .no)) .no)))) (fun d=>by kernel_rfl)
theorem xy:FOk Tryz.prog 218 rX:=fok (V:=⟨tt,[],[],19,[]⟩) al trivial mixed Tryz.func218 rfl rfl (enters_of Tryz.func218 (by kernel_rfl) rfl) rfl (Nat.le_of_ble_eq_true rfl) rfl (.two .no (.two (.two .no (.loop [.slot 5 (.num .i64)] .no)) .no)) (fun d=>by kernel_rfl)
theorem yy:FOk Tryz.prog 270 rk:=fok (V:=⟨tt,[],[],15,[]⟩) al trivial mixed Tryz.func270 rfl rfl (enters_of Tryz.func270 (by kernel_rfl) rfl) rfl (Nat.le_of_ble_eq_true rfl) rfl (.two .no (.two .no (.two (.two .no (.loop [.slot 1 (.own 3 y3),.slot 2 (.num .i64)] .no)) .no))) (fun d=>by kernel_rfl)
end R
namespace R
open Go.RowKit
open D
theorem AU:FOk Tryz.prog 189 ta:=fok (V:=⟨tt,[(218,rX),(270,rk)],[],107,[]⟩) al ⟨xy,yy,trivial⟩ mixed Tryz.func189 rfl rfl (enters_of Tryz.func189 (by kernel_rfl) rfl) rfl (Nat.le_of_ble_eq_true rfl) rfl (.two .no (.two .no (.two .no (.two .no (.two .no (.two (.two .no (.loop [.slot 8 (.own 3 y3),.slot 9 (.own 3 y3),.slot 10 (.num .i64),.box 7 [(.num .i64),(.own 4 y4),(.own 39 y39)]] (.two .no (.two (.two .no (.two (.two .no (.loop [.slot 8 (.own 3 y3),.slot 9 (.own 3 y3),.slot 11 (.own 3 y3),.slot 12 (.num .i64)] (.two .no (.two (.two .no (.two .no (.join [.slot 8 (.own 3 y3),.slot 9 (.own 3 y3),.slot 14 (.num .i64)] .no .no))) .no)))) .no)) .no)))) .no)))))) (fun d=>by kernel_rfl)
theorem xz:FOk Tryz.prog 191 rY:=fok (V:=⟨tt,[],[],55,[]⟩) al trivial mixed Tryz.func191 rfl rfl (enters_of Tryz.func191 (by kernel_rfl) rfl) rfl (Nat.le_of_ble_eq_true rfl) rfl (.two .no (.two .no (.two (.two .no (.loop [.row 3 4 y4,.slot 4 (.num .i64)] (.two .no (.two (.two .no (.loop [.row 3 4 y4,.slot 5 (.num .i64)] (.two .no (.two (.two .no (.loop [.row 3 4 y4,.slot 6 (.num .i64)] (.two .no (.join [.row 3 4 y4] .no .no)))) .no)))) .no)))) .no))) (fun d=>by kernel_rfl)
theorem HV:FOk Tryz.prog 271 zo:=fok (V:=⟨tt,[],[],40,[]⟩) al trivial mixed Tryz.func271 rfl rfl (enters_of Tryz.func271 (by kernel_rfl) rfl) rfl (Nat.le_of_ble_eq_true rfl) rfl (.two .no (.two .no (.two (.two .no (.loop [.slot 7 (.own 3 y3),.slot 8 (.num .i64)] (.two .no (.join [.slot 7 (.own 3 y3)] .no .no)))) .no))) (fun d=>by kernel_rfl)
theorem KZ:FOk Tryz.prog 272 CI:=fok (V:=⟨tt,[],[],46,[]⟩) al trivial mixed Tryz.func272 rfl rfl (enters_of Tryz.func272 (by kernel_rfl) rfl) rfl (Nat.le_of_ble_eq_true rfl) rfl (.two .no (.two (.two .no (.loop [.slot 5 (.num .i64)] .no)) .no)) (fun d=>by kernel_rfl)
theorem yz:FOk Tryz.prog 190 rl:=fok (V:=⟨tt,[(191,rY),(271,zo),(272,CI)],[],99,[]⟩) al ⟨xz,HV,KZ,trivial⟩ mixed Tryz.func190 rfl rfl (enters_of Tryz.func190 (by kernel_rfl) rfl) rfl (Nat.le_of_ble_eq_true rfl) rfl (.two .no (.two .no (.two .no (.two (.two .no (.loop [.slot 4 (.own 3 y3),.slot 5 (.num .i64)] (.two .no (.two (.two .no (.two (.two .no (.at [.slot 6 (.num .i64)] .no)) (.two (.two .no (.at [.slot 6 (.num .i64)] .no)) .no))) .no)))) (.two (.two .no (.loop [.slot 4 (.own 3 y3),.slot 7 (.num .i64)] (.two .no (.two (.two .no (.two .no (.two (.two .no (.loop [.slot 8 (.own 39 y39),.slot 9 (.own 3 y3),.slot 10 (.num .i64)] (.two .no (.two (.at [.slot 8 (.own 39 y39),.slot 9 (.own 3 y3)] (.two .no (.two .no (.two .no (.two (.two .no (.loop [.slot 12 (.num .i64),.slot 13 (.num .i64)] (.two .no (.two (.at [.slot 12 (.num .i64)] .no) .no)))) (.two (.two .no (.at [.slot 8 (.own 39 y39),.slot 12 (.num .i64),.gone 11] .no)) .no)))))) .no)))) .no))) .no)))) .no))))) (fun d=>by kernel_rfl)
theorem xA:FOk Tryz.prog 104 pV:=fok (V:=⟨tt,[(189,ta),(190,rl),(191,rY)],[],9,[]⟩) al ⟨AU,yz,xz,trivial⟩ mixed Tryz.func104 rfl rfl (enters_of Tryz.func104 (by kernel_rfl) rfl) rfl (Nat.le_of_ble_eq_true rfl) rfl .no (fun d=>by kernel_rfl)
theorem jq:FOk Tryz.prog 75 iy:=fok (V:=⟨tt,[],[],15,[]⟩) al trivial mixed Tryz.func75 rfl rfl (enters_of Tryz.func75 (by kernel_rfl) rfl) rfl (Nat.le_of_ble_eq_true rfl) rfl .no (fun d=>by kernel_rfl)
theorem CP:FOk Tryz.prog 291 uZ:=fok (V:=⟨tt,[(75,iy)],[],5,[]⟩) al ⟨jq,trivial⟩ mixed Tryz.func291 rfl rfl (enters_of Tryz.func291 (by kernel_rfl) rfl) rfl (Nat.le_of_ble_eq_true rfl) rfl .no (fun d=>by kernel_rfl)
theorem xB:FOk Tryz.prog 214 rZ:=fok (V:=⟨tt,[(75,iy),(291,uZ)],[],87,[]⟩) al ⟨jq,CP,trivial⟩ mixed Tryz.func214 rfl rfl (enters_of Tryz.func214 (by kernel_rfl) rfl) rfl (Nat.le_of_ble_eq_true rfl) rfl (.two .no (.two (.two .no (.join [.slot 5 .boo] .no (.two .no (.two .no (.two .no (.join [.slot 37 .boo] .no .no)))))) .no)) (fun d=>by kernel_rfl)
theorem HW:FOk Tryz.prog 148 zp:=fok (V:=⟨tt,[(214,rZ)],[],32,[]⟩) al ⟨xB,trivial⟩ mixed Tryz.func148 rfl rfl (enters_of Tryz.func148 (by kernel_rfl) rfl) rfl (Nat.le_of_ble_eq_true rfl) rfl (.two .no (.two .no (.two (.two .no (.loop [.slot 3 (.num .i64),.slot 4 (.num .i64)] .no)) .no))) (fun d=>by kernel_rfl)
theorem qe:FOk Tryz.prog 74 mb:=fok (V:=⟨tt,[(148,zp)],[],11,[]⟩) al ⟨HW,trivial⟩ mixed Tryz.func74 rfl rfl (enters_of Tryz.func74 (by kernel_rfl) rfl) rfl (Nat.le_of_ble_eq_true rfl) rfl .no (fun d=>by kernel_rfl)
theorem oW:FOk Tryz.prog 236 mc:=fok (V:=⟨tt,[(214,rZ)],[],20,[]⟩) al ⟨xB,trivial⟩ mixed Tryz.func236 rfl rfl (enters_of Tryz.func236 (by kernel_rfl) rfl) rfl (Nat.le_of_ble_eq_true rfl) rfl (.two .no (.two .no (.two .no (.two (.loop [.slot 3 (.num .i64),.slot 4 (.num .i64)] .no) .no)))) (fun d=>by kernel_rfl)
theorem xC: ∀n,FOk Tryz.prog 292 (oQ n)
 | 0=>gz (f:=oQ 0) (enters_of Tryz.func292 (by kernel_rfl) rfl) rfl (fun d=>rfl)
 | n+1=>by
  have ih:=xC n
  exact fok (V:=⟨tt,[(236,mc),(292,(oQ n))],[],54,[]⟩) al ⟨oW,ih,trivial⟩ mixed Tryz.func292 rfl rfl (enters_of Tryz.func292 (by kernel_rfl) rfl) rfl (Nat.le_of_ble_eq_true rfl) rfl (.two .no (.two .no (.two .no (.two (.two .no (.two (.two .no (.at [.slot 15 .boo] .no)) .no)) .no)))) (fun d=>by kernel_rfl)
theorem HY:FOk Tryz.prog 281 zq:=fok (V:=⟨tt,[],[],7,[]⟩) al trivial mixed Tryz.func281 rfl rfl (enters_of Tryz.func281 (by kernel_rfl) rfl) rfl (Nat.le_of_ble_eq_true rfl) rfl .no (fun d=>by kernel_rfl)
theorem zN:FOk Tryz.prog 337 um:=fok (V:=⟨tt,[(281,zq)],[],24,[]⟩) al ⟨HY,trivial⟩ mixed Tryz.func337 rfl rfl (enters_of Tryz.func337 (by kernel_rfl) rfl) rfl (Nat.le_of_ble_eq_true rfl) rfl .no (fun d=>by kernel_rfl)
theorem HZ:FOk Tryz.prog 361 zr:=fok (V:=⟨tt,[],[],7,[]⟩) al trivial mixed Tryz.func361 rfl rfl (enters_of Tryz.func361 (by kernel_rfl) rfl) rfl (Nat.le_of_ble_eq_true rfl) rfl .no (fun d=>by kernel_rfl)
theorem vf: ∀n,FOk Tryz.prog 338 (mN n)
 | 0=>gz (f:=mN 0) (enters_of Tryz.func338 (by kernel_rfl) rfl) rfl (fun d=>rfl)
 | n+1=>by
  have ih:=vf n
  exact fok (V:=⟨tt,[(337,um),(338,(mN n)),(361,zr)],[],28,[]⟩) al ⟨zN,ih,HZ,trivial⟩ mixed Tryz.func338 rfl rfl (enters_of Tryz.func338 (by kernel_rfl) rfl) rfl (Nat.le_of_ble_eq_true rfl) rfl .no (fun d=>by kernel_rfl)
end R
namespace R
open Go.RowKit
open D
theorem th: ∀n,FOk Tryz.prog 293 (lA n)
 | 0=>gz (f:=lA 0) (enters_of Tryz.func293 (by kernel_rfl) rfl) rfl (fun d=>rfl)
 | n+1=>by
  have ih:=th n
  exact fok (V:=⟨tt,[(236,mc),(293,(lA n)),(337,um),(338,(mN dy))],[],56,[]⟩) al ⟨oW,ih,zN,(vf dy),trivial⟩ mixed Tryz.func293 rfl rfl (enters_of Tryz.func293 (by kernel_rfl) rfl) rfl (Nat.le_of_ble_eq_true rfl) rfl (.two .no (.two .no (.two .no (.two (.two .no (.two (.two .no (.at [.slot 15 .boo] .no)) .no)) .no)))) (fun d=>by kernel_rfl)
theorem yA:FOk Tryz.prog 215 rp:=fok (V:=⟨tt,[(74,mb),(292,(oQ dy)),(293,(lA dy))],[],24,[]⟩) al ⟨qe,(xC dy),(th dy),trivial⟩ mixed Tryz.func215 rfl rfl (enters_of Tryz.func215 (by kernel_rfl) rfl) rfl (Nat.le_of_ble_eq_true rfl) rfl .no (fun d=>by kernel_rfl)
theorem Es:FOk Tryz.prog 294 w8:=fok (V:=⟨tt,[],[],36,[]⟩) al trivial mixed Tryz.func294 rfl rfl (enters_of Tryz.func294 (by kernel_rfl) rfl) rfl (Nat.le_of_ble_eq_true rfl) rfl (.two .no (.loop [.slot 6 (.num .i64),.par 3 [3] 3 y3] (.two .no (.two (.at [.par 3 [3] 3 y3] .no) .no)))) (fun d=>by kernel_rfl)
theorem vh: ∀n,FOk Tryz.prog 216 (mO n)
 | 0=>gz (f:=mO 0) (enters_of Tryz.func216 (by kernel_rfl) rfl) rfl (fun d=>rfl)
 | n+1=>by
  have ih:=vh n
  exact fok (V:=⟨tt,[(216,(mO n)),(236,mc),(294,w8)],[],163,[]⟩) al ⟨ih,oW,Es,trivial⟩ mixed Tryz.func216 rfl rfl (enters_of Tryz.func216 (by kernel_rfl) rfl) rfl (Nat.le_of_ble_eq_true rfl) rfl (.two .no (.two .no (.two .no (.two (.two .no (.two .no (.two .no (.two .no (.two .no (.two .no (.two (.two .no (.two .no (.two .no (.two .no (.two .no (.two (.two .no (.at [.box 11 [.boo,(.num .i64),(.num .i64)]] .no)) (.two (.two .no (.at [.box 11 [.boo,(.num .i64),(.num .i64)]] .no)) .no))))))) .no))))))) .no)))) (fun d=>by kernel_rfl)
theorem tj:FOk Tryz.prog 149 mP:=fok (V:=⟨tt,[(215,rp),(216,(mO dy))],[],51,[]⟩) al ⟨yA,(vh dy),trivial⟩ mixed Tryz.func149 rfl rfl (enters_of Tryz.func149 (by kernel_rfl) rfl) rfl (Nat.le_of_ble_eq_true rfl) rfl (.two .no (.two .no (.two .no (.two .no (.two (.two .no (.loop [.slot 6 (.num .i64),.slot 7 (.num .i64)] (.two .no (.two (.at [.slot 6 (.num .i64)] .no) .no)))) .no))))) (fun d=>by kernel_rfl)
theorem CQ:FOk Tryz.prog 217 vc:=fok (V:=⟨tt,[],[],63,[]⟩) al trivial mixed Tryz.func217 rfl rfl (enters_of Tryz.func217 (by kernel_rfl) rfl) rfl (Nat.le_of_ble_eq_true rfl) rfl (.two .no (.two .no (.join [.slot 7 (.num .i64)] .no (.two (.two .no (.loop [.slot 7 (.num .i64),.slot 8 (.num .i64)] (.two .no (.join [.slot 7 (.num .i64)] .no .no)))) (.two .no (.two (.two .no (.loop [.slot 9 (.num .i64),.slot 10 (.num .i64)] (.two .no (.join [.slot 9 (.num .i64)] .no .no)))) .no)))))) (fun d=>by kernel_rfl)
theorem yB:FOk Tryz.prog 219 rq:=fok (V:=⟨tt,[],[],20,[]⟩) al trivial mixed Tryz.func219 rfl rfl (enters_of Tryz.func219 (by kernel_rfl) rfl) rfl (Nat.le_of_ble_eq_true rfl) rfl .no (fun d=>by kernel_rfl)
theorem yC:FOk Tryz.prog 150 rr:=fok (V:=⟨tt,[(217,vc),(218,rX),(219,rq)],[],73,[]⟩) al ⟨CQ,xy,yB,trivial⟩ mixed Tryz.func150 rfl rfl (enters_of Tryz.func150 (by kernel_rfl) rfl) rfl (Nat.le_of_ble_eq_true rfl) rfl (.two .no (.two .no (.two .no (.two (.two .no (.loop [.slot 7 (.own 3 y3),.slot 8 (.num .i64),.box 6 [(.num .i64),(.own 4 y4),(.own 39 y39)]] (.two .no (.two (.two .no (.two (.two .no (.loop [.slot 7 (.own 3 y3),.slot 9 (.own 3 y3),.slot 10 (.num .i64)] (.two .no (.two (.two .no (.two .no (.join [.slot 7 (.own 3 y3),.slot 12 (.num .i64)] .no .no))) .no)))) .no)) .no)))) .no)))) (fun d=>by kernel_rfl)
theorem xD:FOk Tryz.prog 76 pW:=fok (V:=⟨tt,[(104,pV),(149,mP),(150,rr)],[],33,[]⟩) al ⟨xA,tj,yC,trivial⟩ mixed Tryz.func76 rfl rfl (enters_of Tryz.func76 (by kernel_rfl) rfl) rfl (Nat.le_of_ble_eq_true rfl) rfl .no (fun d=>by kernel_rfl)
theorem H3:FOk Tryz.prog 233 zt:=fok (V:=⟨tt,[(75,iy)],[],30,[]⟩) al ⟨jq,trivial⟩ mixed Tryz.func233 rfl rfl (enters_of Tryz.func233 (by kernel_rfl) rfl) rfl (Nat.le_of_ble_eq_true rfl) rfl .no (fun d=>by kernel_rfl)
theorem fo:FOk Tryz.prog 164 dE:=fok (V:=⟨tt,[(75,iy),(233,zt)],[],64,[]⟩) al ⟨jq,H3,trivial⟩ mixed Tryz.func164 rfl rfl (enters_of Tryz.func164 (by kernel_rfl) rfl) rfl (Nat.le_of_ble_eq_true rfl) rfl (.two .no (.two (.two .no (.loop [.slot 3 (.num .i64)] .no)) (.two (.two .no (.loop [.slot 4 (.num .i64)] .no)) .no))) (fun d=>by kernel_rfl)
theorem gM:FOk Tryz.prog 234 dX:=fok (V:=⟨tt,[],[],22,[]⟩) al trivial mixed Tryz.func234 rfl rfl (enters_of Tryz.func234 (by kernel_rfl) rfl) rfl (Nat.le_of_ble_eq_true rfl) rfl (.two .no (.two .no (.two (.two .no (.loop [.slot 3 (.own 128 jJ),.slot 4 (.num .i64)] .no)) .no))) (fun d=>by kernel_rfl)
theorem xE:FOk Tryz.prog 166 sd:=fok (V:=⟨tt,[],[],24,[]⟩) al trivial mixed Tryz.func166 rfl rfl (enters_of Tryz.func166 (by kernel_rfl) rfl) rfl (Nat.le_of_ble_eq_true rfl) rfl .no (fun d=>by kernel_rfl)
theorem qZ:FOk Tryz.prog 168 nP:=fok (V:=⟨tt,[(166,sd)],[(36,.bool)],45,[]⟩) al ⟨xE,trivial⟩ mixed Tryz.func168 rfl rfl (enters_of Tryz.func168 (by kernel_rfl) rfl) rfl (Nat.le_of_ble_eq_true rfl) rfl (.two .no (.two .no (.two (.loop [.slot 5 (.num .i64)] .no) .no))) (fun d=>by kernel_rfl)
theorem Et:FOk Tryz.prog 304 w9:=fok (V:=⟨tt,[(75,iy),(164,dE)],[],31,[]⟩) al ⟨jq,fo,trivial⟩ mixed Tryz.func304 rfl rfl (enters_of Tryz.func304 (by kernel_rfl) rfl) rfl (Nat.le_of_ble_eq_true rfl) rfl .no (fun d=>by kernel_rfl)
theorem tk:FOk Tryz.prog 235 mQ:=fok (V:=⟨tt,[(164,dE),(168,nP),(304,w9)],[],68,[]⟩) al ⟨fo,qZ,Et,trivial⟩ mixed Tryz.func235 rfl rfl (enters_of Tryz.func235 (by kernel_rfl) rfl) rfl (Nat.le_of_ble_eq_true rfl) rfl (.two .no (.two .no (.two .no (.two (.two .no (.loop [.slot 5 (.own 128 jJ),.slot 6 (.num .i64)] (.two .no (.join [.slot 5 (.own 128 jJ)] .no .no)))) (.two (.two .no (.loop [.slot 5 (.own 128 jJ),.slot 7 (.num .i64)] (.two .no (.join [.slot 5 (.own 128 jJ)] (.two .no (.join [.slot 5 (.own 128 jJ)] .no .no)) .no)))) .no))))) (fun d=>by kernel_rfl)
theorem gN:FOk Tryz.prog 237 dY:=fok (V:=⟨tt,[(168,nP)],[],46,[]⟩) al ⟨qZ,trivial⟩ mixed Tryz.func237 rfl rfl (enters_of Tryz.func237 (by kernel_rfl) rfl) rfl (Nat.le_of_ble_eq_true rfl) rfl (.two .no (.two .no (.two (.two .no (.loop [.slot 5 (.own 128 jJ),.slot 6 (.num .i64)] (.two .no (.two (.two .no (.loop [.slot 5 (.own 128 jJ),.slot 7 (.num .i64)] (.two .no (.join [.slot 5 (.own 128 jJ)] .no .no)))) .no)))) .no))) (fun d=>by kernel_rfl)
end R
namespace R
open Go.RowKit
open D
theorem nv:FOk Tryz.prog 238 kD:=fok (V:=⟨tt,[(168,nP)],[],34,[]⟩) al ⟨qZ,trivial⟩ mixed Tryz.func238 rfl rfl (enters_of Tryz.func238 (by kernel_rfl) rfl) rfl (Nat.le_of_ble_eq_true rfl) rfl (.two .no (.two .no (.two (.two .no (.loop [.slot 5 (.own 128 jJ),.slot 6 (.num .i64)] .no)) (.two (.two .no (.loop [.slot 5 (.own 128 jJ),.slot 7 (.num .i64)] .no)) .no)))) (fun d=>by kernel_rfl)
theorem qf:FOk Tryz.prog 88 mR:=fok (V:=⟨tt,[(75,iy),(166,sd)],[],43,[]⟩) al ⟨jq,xE,trivial⟩ mixed Tryz.func88 rfl rfl (enters_of Tryz.func88 (by kernel_rfl) rfl) rfl (Nat.le_of_ble_eq_true rfl) rfl (.two .no (.two (.two .no (.loop [.slot 3 (.num .i64)] .no)) .no)) (fun d=>by kernel_rfl)
theorem sj:FOk Tryz.prog 239 me:=fok (V:=⟨tt,[(75,iy),(88,mR),(234,dX),(237,dY),(238,kD)],[],28,[]⟩) al ⟨jq,qf,gM,gN,nv,trivial⟩ mixed Tryz.func239 rfl rfl (enters_of Tryz.func239 (by kernel_rfl) rfl) rfl (Nat.le_of_ble_eq_true rfl) rfl (.two .no (.two .no (.two .no (.two (.two .no (.loop [.slot 5 (.own 128 jJ),.slot 6 (.num .i64)] .no)) .no)))) (fun d=>by kernel_rfl)
theorem uq:FOk Tryz.prog 240 nQ:=fok (V:=⟨tt,[(75,iy),(88,mR),(234,dX),(237,dY),(238,kD)],[],48,[]⟩) al ⟨jq,qf,gM,gN,nv,trivial⟩ mixed Tryz.func240 rfl rfl (enters_of Tryz.func240 (by kernel_rfl) rfl) rfl (Nat.le_of_ble_eq_true rfl) rfl (.two .no (.two .no (.two .no (.two .no (.two (.two .no (.loop [.slot 9 (.own 128 jJ),.slot 10 (.own 128 jJ),.slot 11 (.num .i64)] (.two .no (.two (.join [.slot 9 (.own 128 jJ)] .no .no) .no)))) .no))))) (fun d=>by kernel_rfl)
theorem xF: ∀n,FOk Tryz.prog 165 (oR n)
 | 0=>gz (f:=oR 0) (enters_of Tryz.func165 (by kernel_rfl) rfl) rfl (fun d=>rfl)
 | n+1=>by
  have ih:=xF n
  exact fok (V:=⟨tt,[(165,(oR n)),(234,dX),(235,mQ),(236,mc),(237,dY),(238,kD),(239,me),(240,nQ)],[],93,[]⟩) al ⟨ih,gM,tk,oW,gN,nv,sj,uq,trivial⟩ mixed Tryz.func165 rfl rfl (enters_of Tryz.func165 (by kernel_rfl) rfl) rfl (Nat.le_of_ble_eq_true rfl) rfl .no (fun d=>by kernel_rfl)
theorem vt:FOk Tryz.prog 87 pd:=fok (V:=⟨tt,[(74,mb),(164,dE),(165,(oR dy))],[],19,[]⟩) al ⟨qe,fo,(xF dy),trivial⟩ mixed Tryz.func87 rfl rfl (enters_of Tryz.func87 (by kernel_rfl) rfl) rfl (Nat.le_of_ble_eq_true rfl) rfl .no (fun d=>by kernel_rfl)
theorem H4:FOk Tryz.prog 167 zu:=fok (V:=⟨tt,[],[],18,[]⟩) al trivial mixed Tryz.func167 rfl rfl (enters_of Tryz.func167 (by kernel_rfl) rfl) rfl (Nat.le_of_ble_eq_true rfl) rfl (.two .no (.two (.two .no (.loop [.slot 5 (.num .i64)] .no)) .no)) (fun d=>by kernel_rfl)
theorem ur:FOk Tryz.prog 89 nR:=fok (V:=⟨tt,[(167,zu),(168,nP)],[],28,[]⟩) al ⟨H4,qZ,trivial⟩ mixed Tryz.func89 rfl rfl (enters_of Tryz.func89 (by kernel_rfl) rfl) rfl (Nat.le_of_ble_eq_true rfl) rfl (.two .no (.two .no (.two (.two .no (.loop [.slot 5 (.own 128 jJ),.slot 6 (.num .i64)] (.two .no (.join [.slot 5 (.own 128 jJ)] .no .no)))) .no))) (fun d=>by kernel_rfl)
theorem Eu:FOk Tryz.prog 127 xa:=fok (V:=⟨tt,[(75,iy)],[],50,[]⟩) al ⟨jq,trivial⟩ mixed Tryz.func127 rfl rfl (enters_of Tryz.func127 (by kernel_rfl) rfl) rfl (Nat.le_of_ble_eq_true rfl) rfl (.two .no (.two .no (.two .no (.two (.two .no (.loop [.slot 4 (.num .i64)] (.two .no (.two (.two .no (.two .no (.loop [.slot 5 (.num .i64)] .no))) .no)))) .no)))) (fun d=>by kernel_rfl)
theorem k8:FOk Tryz.prog 58 gK:=fok (V:=⟨tt,[(127,xa)],[],11,[]⟩) al ⟨Eu,trivial⟩ mixed Tryz.func58 rfl rfl (enters_of Tryz.func58 (by kernel_rfl) rfl) rfl (Nat.le_of_ble_eq_true rfl) rfl .no (fun d=>by kernel_rfl)
theorem oX:FOk Tryz.prog 306 lB:=fok (V:=⟨tt,[],[],22,[]⟩) al trivial mixed Tryz.func306 rfl rfl (enters_of Tryz.func306 (by kernel_rfl) rfl) rfl (Nat.le_of_ble_eq_true rfl) rfl (.two .no (.two (.two .no (.loop [.slot 5 (.num .i64)] .no)) .no)) (fun d=>by kernel_rfl)
theorem xG:FOk Tryz.prog 244 se:=fok (V:=⟨tt,[(75,iy),(164,dE),(306,lB)],[],96,[]⟩) al ⟨jq,fo,oX,trivial⟩ mixed Tryz.func244 rfl rfl (enters_of Tryz.func244 (by kernel_rfl) rfl) rfl (Nat.le_of_ble_eq_true rfl) rfl (.two .no (.two .no (.two .no (.two (.two .no (.loop [.slot 6 (.own 3 y3),.slot 7 (.num .i64)] (.two .no (.two (.two .no (.two .no (.two .no (.two .no (.join [.slot 9 (.num .i64),.slot 10 (.num .i64)] .no .no))))) .no)))) .no)))) (fun d=>by kernel_rfl)
theorem xH:FOk Tryz.prog 170 sf:=fok (V:=⟨tt,[(244,se)],[],21,[]⟩) al ⟨xG,trivial⟩ mixed Tryz.func170 rfl rfl (enters_of Tryz.func170 (by kernel_rfl) rfl) rfl (Nat.le_of_ble_eq_true rfl) rfl .no (fun d=>by kernel_rfl)
theorem xI:FOk Tryz.prog 241 pX:=fok (V:=⟨tt,[(244,se)],[],14,[]⟩) al ⟨xG,trivial⟩ mixed Tryz.func241 rfl rfl (enters_of Tryz.func241 (by kernel_rfl) rfl) rfl (Nat.le_of_ble_eq_true rfl) rfl .no (fun d=>by kernel_rfl)
theorem nw:FOk Tryz.prog 307 kE:=fok (V:=⟨tt,[],[],31,[]⟩) al trivial mixed Tryz.func307 rfl rfl (enters_of Tryz.func307 (by kernel_rfl) rfl) rfl (Nat.le_of_ble_eq_true rfl) rfl (.two .no (.two .no (.two (.loop [.slot 1 (.num .i64),.slot 7 (.num .i64)] .no) .no))) (fun d=>by kernel_rfl)
theorem tl:FOk Tryz.prog 309 oS:=fok (V:=⟨tt,[],[],13,[]⟩) al trivial mixed Tryz.func309 rfl rfl (enters_of Tryz.func309 (by kernel_rfl) rfl) rfl (Nat.le_of_ble_eq_true rfl) rfl .no (fun d=>by kernel_rfl)
theorem CR:FOk Tryz.prog 310 xb:=fok (V:=⟨tt,[],[],10,[]⟩) al trivial mixed Tryz.func310 rfl rfl (enters_of Tryz.func310 (by kernel_rfl) rfl) rfl (Nat.le_of_ble_eq_true rfl) rfl .no (fun d=>by kernel_rfl)
end R
namespace R
open Go.RowKit
open D
theorem Ev:FOk Tryz.prog 305 xc:=fok (V:=⟨tt,[(306,lB),(307,kE),(309,oS),(310,xb)],[],82,[]⟩) al ⟨oX,nw,tl,CR,trivial⟩ mixed Tryz.func305 rfl rfl (enters_of Tryz.func305 (by kernel_rfl) rfl) rfl (Nat.le_of_ble_eq_true rfl) rfl (.two .no (.two .no (.two .no (.two (.two .no (.loop [.slot 13 (.num .i64),.slot 14 (.num .i64)] (.two .no (.join [.slot 13 (.num .i64)] (.two .no (.two .no (.two .no (.loop [.slot 13 (.num .i64),.slot 16 (.num .i64)] (.two .no (.join [.slot 13 (.num .i64)] .no .no)))))) .no)))) .no)))) (fun d=>by kernel_rfl)
theorem CS:FOk Tryz.prog 242 vd:=fok (V:=⟨tt,[(305,xc)],[],47,[]⟩) al ⟨Ev,trivial⟩ mixed Tryz.func242 rfl rfl (enters_of Tryz.func242 (by kernel_rfl) rfl) rfl (Nat.le_of_ble_eq_true rfl) rfl (.two .no (.two .no (.two .no (.two (.two .no (.loop [.slot 7 (.own 3 y3),.slot 8 (.num .i64),.slot 9 (.num .i64)] .no)) .no)))) (fun d=>by kernel_rfl)
theorem ry:FOk Tryz.prog 245 nt:=fok (V:=⟨tt,[(307,kE)],[],38,[]⟩) al ⟨nw,trivial⟩ mixed Tryz.func245 rfl rfl (enters_of Tryz.func245 (by kernel_rfl) rfl) rfl (Nat.le_of_ble_eq_true rfl) rfl (.two .no (.two .no (.two (.two .no (.loop [.slot 10 (.num .i64)] .no)) .no))) (fun d=>by kernel_rfl)
theorem Ew:FOk Tryz.prog 243 xd:=fok (V:=⟨tt,[(245,nt)],[],29,[]⟩) al ⟨ry,trivial⟩ mixed Tryz.func243 rfl rfl (enters_of Tryz.func243 (by kernel_rfl) rfl) rfl (Nat.le_of_ble_eq_true rfl) rfl (.two .no (.two (.two .no (.loop [.slot 9 (.num .i64)] .no)) .no)) (fun d=>by kernel_rfl)
theorem xJ:FOk Tryz.prog 169 pY:=fok (V:=⟨tt,[(58,gK),(170,sf),(241,pX),(242,vd),(243,xd)],[],33,[]⟩) al ⟨k8,xH,xI,CS,Ew,trivial⟩ mixed Tryz.func169 rfl rfl (enters_of Tryz.func169 (by kernel_rfl) rfl) rfl (Nat.le_of_ble_eq_true rfl) rfl .no (fun d=>by kernel_rfl)
theorem AW:FOk Tryz.prog 90 tc:=fok (V:=⟨tt,[(169,pY),(170,sf)],[],28,[]⟩) al ⟨xJ,xH,trivial⟩ mixed Tryz.func90 rfl rfl (enters_of Tryz.func90 (by kernel_rfl) rfl) rfl (Nat.le_of_ble_eq_true rfl) rfl .no (fun d=>by kernel_rfl)
theorem Ex:FOk Tryz.prog 171 xe:=fok (V:=⟨tt,[(58,gK),(75,iy),(164,dE)],[],31,[]⟩) al ⟨k8,jq,fo,trivial⟩ mixed Tryz.func171 rfl rfl (enters_of Tryz.func171 (by kernel_rfl) rfl) rfl (Nat.le_of_ble_eq_true rfl) rfl .no (fun d=>by kernel_rfl)
theorem H5:FOk Tryz.prog 308 zw:=fok (V:=⟨tt,[],[],52,[]⟩) al trivial mixed Tryz.func308 rfl rfl (enters_of Tryz.func308 (by kernel_rfl) rfl) rfl (Nat.le_of_ble_eq_true rfl) rfl (.two .no (.two .no (.two (.two .no (.loop [.slot 5 (.own 261 Ds),.slot 6 (.num .i64)] (.two .no (.join [.slot 5 (.own 261 Ds)] (.join [.slot 5 (.own 261 Ds)] .no .no) .no)))) .no))) (fun d=>by kernel_rfl)
theorem CT:FOk Tryz.prog 246 ve:=fok (V:=⟨tt,[(306,lB),(307,kE),(308,zw),(309,oS),(310,xb)],[],110,[]⟩) al ⟨oX,nw,H5,tl,CR,trivial⟩ mixed Tryz.func246 rfl rfl (enters_of Tryz.func246 (by kernel_rfl) rfl) rfl (Nat.le_of_ble_eq_true rfl) rfl (.two .no (.two .no (.two .no (.two .no (.two (.two .no (.loop [.slot 9 (.own 263 Un),.slot 12 (.num .i64)] (.two .no (.two (.two .no (.two .no (.two (.two .no (.loop [.slot 14 (.num .i64),.slot 15 (.num .i64)] (.two .no (.join [.slot 14 (.num .i64)] .no .no)))) (.two .no (.loop [.slot 9 (.own 263 Un),.slot 17 (.num .i64)] (.two .no (.join [.slot 9 (.own 263 Un)] .no .no))))))) .no)))) .no))))) (fun d=>by kernel_rfl)
theorem Ey:FOk Tryz.prog 172 xf:=fok (V:=⟨tt,[(245,nt),(246,ve)],[(50,.bag Mx),(67,.bag Mx)],124,[]⟩) al ⟨ry,CT,trivial⟩ mixed Tryz.func172 rfl rfl (enters_of Tryz.func172 (by kernel_rfl) rfl) rfl (Nat.le_of_ble_eq_true rfl) rfl (.two .no (.two .no (.two .no (.two (.two .no (.loop [.slot 8 (.own 3 (.int .i64)),.slot 9 (.num .i64)] (.two .no (.two (.two .no (.two (.two .no (.at [.slot 10 (.num .i64)] .no)) .no)) .no)))) (.two .no (.two (.two .no (.loop [.slot 11 (.own 258 (.bag Mx)),.slot 12 (.num .i64)] .no)) (.two .no (.two (.two .no (.loop [.slot 13 .boo,.slot 14 (.num .i64),.row 11 258 (.bag Mx),.row 8 3 y3] (.two .no (.two (.two .no (.two .no (.loop [.slot 13 .boo,.slot 15 (.num .i64),.row 11 258 (.bag Mx),.row 8 3 y3] (.two .no (.two (.two .no (.loop [.slot 13 .boo,.slot 16 (.num .i64),.row 8 3 y3,.row 11 258 (.bag Mx)] (.two .no (.two (.at [.slot 13 .boo,.row 8 3 y3,.row 11 258 (.bag Mx)] .no) .no)))) .no))))) .no)))) .no)))))))) (fun d=>by kernel_rfl)
theorem tm:FOk Tryz.prog 91 mS:=fok (V:=⟨tt,[(171,xe),(172,xf)],[],35,[]⟩) al ⟨Ex,Ey,trivial⟩ mixed Tryz.func91 rfl rfl (enters_of Tryz.func91 (by kernel_rfl) rfl) rfl (Nat.le_of_ble_eq_true rfl) rfl .no (fun d=>by kernel_rfl)
theorem vu:FOk Tryz.prog 32 pe:=fok (V:=⟨tt,[(76,pW),(87,pd),(88,mR),(89,nR),(90,tc),(91,mS)],[],97,[]⟩) al ⟨xD,vt,qf,ur,AW,tm,trivial⟩ mixed Tryz.func32 rfl rfl (enters_of Tryz.func32 (by kernel_rfl) rfl) rfl (Nat.le_of_ble_eq_true rfl) rfl (.two .no (.two .no (.two .no (.two .no (.two .no (.two .no (.two (.two .no (.loop [.slot 13 (.num .i64)] .no)) .no))))))) (fun d=>by kernel_rfl)
theorem H6:FOk Tryz.prog 92 zx:=fok (V:=⟨tt,[],[],22,[]⟩) al trivial mixed Tryz.func92 rfl rfl (enters_of Tryz.func92 (by kernel_rfl) rfl) rfl (Nat.le_of_ble_eq_true rfl) rfl (.two .no (.two .no (.two (.two .no (.loop [.row 3 3 y3,.slot 4 (.num .i64)] .no)) .no))) (fun d=>by kernel_rfl)
theorem H7:FOk Tryz.prog 173 zy:=fok (V:=⟨tt,[],[],17,[]⟩) al trivial mixed Tryz.func173 rfl rfl (enters_of Tryz.func173 (by kernel_rfl) rfl) rfl (Nat.le_of_ble_eq_true rfl) rfl .no (fun d=>by kernel_rfl)
theorem Ez:FOk Tryz.prog 93 xg:=fok (V:=⟨tt,[(173,zy)],[],23,[]⟩) al ⟨H7,trivial⟩ mixed Tryz.func93 rfl rfl (enters_of Tryz.func93 (by kernel_rfl) rfl) rfl (Nat.le_of_ble_eq_true rfl) rfl (.two .no (.two .no (.two (.two .no (.loop [.row 3 194 Gs,.slot 4 (.num .i64)] .no)) .no))) (fun d=>by kernel_rfl)
theorem EA:FOk Tryz.prog 33 xh:=fok (V:=⟨tt,[(92,zx),(93,xg)],[],13,[]⟩) al ⟨H6,Ez,trivial⟩ mixed Tryz.func33 rfl rfl (enters_of Tryz.func33 (by kernel_rfl) rfl) rfl (Nat.le_of_ble_eq_true rfl) rfl .no (fun d=>by kernel_rfl)
theorem H8:FOk Tryz.prog 94 zz:=fok (V:=⟨tt,[],[],11,[]⟩) al trivial mixed Tryz.func94 rfl rfl (enters_of Tryz.func94 (by kernel_rfl) rfl) rfl (Nat.le_of_ble_eq_true rfl) rfl .no (fun d=>by kernel_rfl)
end R
namespace R
open Go.RowKit
open D
theorem EB:FOk Tryz.prog 34 xi:=fok (V:=⟨tt,[(94,zz)],[],23,[]⟩) al ⟨H8,trivial⟩ mixed Tryz.func34 rfl rfl (enters_of Tryz.func34 (by kernel_rfl) rfl) rfl (Nat.le_of_ble_eq_true rfl) rfl (.two .no (.two .no (.two (.two .no (.loop [.row 3 128 jJ,.slot 4 (.num .i64)] .no)) .no))) (fun d=>by kernel_rfl)
theorem H9:FOk Tryz.prog 247 zA:=fok (V:=⟨tt,[],[],11,[]⟩) al trivial mixed Tryz.func247 rfl rfl (enters_of Tryz.func247 (by kernel_rfl) rfl) rfl (Nat.le_of_ble_eq_true rfl) rfl .no (fun d=>by kernel_rfl)
theorem EC:FOk Tryz.prog 174 xj:=fok (V:=⟨tt,[(247,zA)],[],23,[]⟩) al ⟨H9,trivial⟩ mixed Tryz.func174 rfl rfl (enters_of Tryz.func174 (by kernel_rfl) rfl) rfl (Nat.le_of_ble_eq_true rfl) rfl (.two .no (.two .no (.two (.two .no (.loop [.row 3 261 Ds,.slot 4 (.num .i64)] .no)) .no))) (fun d=>by kernel_rfl)
theorem Ia:FOk Tryz.prog 95 zB:=fok (V:=⟨tt,[(174,xj)],[],12,[]⟩) al ⟨EC,trivial⟩ mixed Tryz.func95 rfl rfl (enters_of Tryz.func95 (by kernel_rfl) rfl) rfl (Nat.le_of_ble_eq_true rfl) rfl .no (fun d=>by kernel_rfl)
theorem ED:FOk Tryz.prog 35 xk:=fok (V:=⟨tt,[(95,zB)],[],23,[]⟩) al ⟨Ia,trivial⟩ mixed Tryz.func35 rfl rfl (enters_of Tryz.func35 (by kernel_rfl) rfl) rfl (Nat.le_of_ble_eq_true rfl) rfl (.two .no (.two .no (.two (.two .no (.loop [.row 3 131 CH,.slot 4 (.num .i64)] .no)) .no))) (fun d=>by kernel_rfl)
theorem eP:FOk Tryz.prog 80 dF:=fok (V:=⟨tt,[],[],15,[]⟩) al trivial mixed Tryz.func80 rfl rfl (enters_of Tryz.func80 (by kernel_rfl) rfl) rfl (Nat.le_of_ble_eq_true rfl) rfl .no (fun d=>by kernel_rfl)
theorem mZ:FOk Tryz.prog 201 kO:=fok (V:=⟨tt,[(80,dF)],[],5,[]⟩) al ⟨eP,trivial⟩ mixed Tryz.func201 rfl rfl (enters_of Tryz.func201 (by kernel_rfl) rfl) rfl (Nat.le_of_ble_eq_true rfl) rfl .no (fun d=>by kernel_rfl)
theorem EE:FOk Tryz.prog 249 xl:=fok (V:=⟨tt,[(80,dF),(201,kO)],[],48,[]⟩) al ⟨eP,mZ,trivial⟩ mixed Tryz.func249 rfl rfl (enters_of Tryz.func249 (by kernel_rfl) rfl) rfl (Nat.le_of_ble_eq_true rfl) rfl (.two .no (.two (.two .no (.two .no (.two .no (.two .no (.two .no (.join [.slot 37 .boo] .no .no)))))) .no)) (fun d=>by kernel_rfl)
theorem kX:FOk Tryz.prog 250 aU:=CF (f:=aU) (gz (f:=⟨aU.ps,aU.rs,aU.m,none⟩) (enters_of Tryz.func250 (by kernel_rfl) rfl) rfl (fun d=>rfl)) (Gp (V:=⟨tt,[],[(5,.raw)],8,[]⟩) al trivial mixed Tryz.func250 rfl rfl (enters_of Tryz.func250 (by kernel_rfl) rfl) (Nat.le_of_ble_eq_true rfl) .no (fun E bn xs=>by cases bn <;> kernel_rfl))
theorem q7:FOk Tryz.prog 176 nS:=fok (V:=⟨tt,[(249,xl),(250,aU)],[],56,[(271,198,uk)]⟩) al ⟨EE,kX,trivial⟩ mixed Tryz.func176 rfl rfl (enters_of Tryz.func176 (by kernel_rfl) rfl) rfl (Nat.le_of_ble_eq_true rfl) rfl (.two .no (.two .no (.two (.two .no (.loop [.slot 3 (.own 198 V4),.slot 13 (.num .i64)] (.two .no (.two .no (.two (.two .no (.two .no (.two (.two .no (.at [.slot 6 (.num .i64)] (.two (.two .no (.at [.slot 19 .boo] .no)) (.two .no (.two (.two .no (.at [.slot 22 .boo] .no)) .no))))) .no))) .no))))) .no))) (fun d=>by kernel_rfl)
theorem Ib:FOk Tryz.prog 155 zC:=fok (V:=⟨tt,[(176,nS)],[],6,[(271,198,uk)]⟩) al ⟨q7,trivial⟩ mixed Tryz.func155 rfl rfl (enters_of Tryz.func155 (by kernel_rfl) rfl) rfl (Nat.le_of_ble_eq_true rfl) rfl .no (fun d=>by kernel_rfl)
theorem qg:FOk Tryz.prog 79 mf:=fok (V:=⟨tt,[(155,zC)],[],11,[]⟩) al ⟨Ib,trivial⟩ mixed Tryz.func79 rfl rfl (enters_of Tryz.func79 (by kernel_rfl) rfl) rfl (Nat.le_of_ble_eq_true rfl) rfl .no (fun d=>by kernel_rfl)
theorem rz: ∀n,FOk Tryz.prog 299 (kF n)
 | 0=>gz (f:=kF 0) (enters_of Tryz.func299 (by kernel_rfl) rfl) rfl (fun d=>rfl)
 | n+1=>by
  have ih:=rz n
  exact fok (V:=⟨tt,[(299,(kF n))],[],39,[(271,198,uk)]⟩) al ⟨ih,trivial⟩ mixed Tryz.func299 rfl rfl (enters_of Tryz.func299 (by kernel_rfl) rfl) rfl (Nat.le_of_ble_eq_true rfl) rfl (.two .no (.two .no (.two (.two .no (.loop [.slot 3 (.num .i64),.slot 11 (.num .i64)] (.two .no (.two .no (.two (.at [.slot 3 (.num .i64)] .no) .no))))) .no))) (fun d=>by kernel_rfl)
theorem Ox:FOk Tryz.prog 362 Gt:=fok (V:=⟨tt,[],[],7,[(271,198,uk)]⟩) al trivial mixed Tryz.func362 rfl rfl (enters_of Tryz.func362 (by kernel_rfl) rfl) rfl (Nat.le_of_ble_eq_true rfl) rfl .no (fun d=>by kernel_rfl)
theorem vi: ∀n,FOk Tryz.prog 339 (mT n)
 | 0=>gz (f:=mT 0) (enters_of Tryz.func339 (by kernel_rfl) rfl) rfl (fun d=>rfl)
 | n+1=>by
  have ih:=vi n
  exact fok (V:=⟨tt,[(339,(mT n)),(362,Gt)],[],32,[(271,198,uk)]⟩) al ⟨ih,Ox,trivial⟩ mixed Tryz.func339 rfl rfl (enters_of Tryz.func339 (by kernel_rfl) rfl) rfl (Nat.le_of_ble_eq_true rfl) rfl .no (fun d=>by kernel_rfl)
theorem qi: ∀n,FOk Tryz.prog 300 (jo n)
 | 0=>gz (f:=jo 0) (enters_of Tryz.func300 (by kernel_rfl) rfl) rfl (fun d=>rfl)
 | n+1=>by
  have ih:=qi n
  exact fok (V:=⟨tt,[(300,(jo n)),(339,(mT dy))],[(52,t198)],58,[(271,198,uk)]⟩) al ⟨ih,(vi dy),trivial⟩ mixed Tryz.func300 rfl rfl (enters_of Tryz.func300 (by kernel_rfl) rfl) rfl (Nat.le_of_ble_eq_true rfl) rfl (.two .no (.two .no (.two .no (.two (.two .no (.loop [.slot 41 (.num .i64),.box 3 [(.num .i64),(.num .i64),(.num .i64),(.num .i64),(.own 198 (.tree 271 198 uk))]] .no)) .no)))) (fun d=>by kernel_rfl)
theorem pj: ∀n,FOk Tryz.prog 340 (iz n)
 | 0=>gz (f:=iz 0) (enters_of Tryz.func340 (by kernel_rfl) rfl) rfl (fun d=>rfl)
 | n+1=>by
  have ih:=pj n
  exact fok (V:=⟨tt,[(340,(iz n))],[],32,[(271,198,uk)]⟩) al ⟨ih,trivial⟩ mixed Tryz.func340 rfl rfl (enters_of Tryz.func340 (by kernel_rfl) rfl) rfl (Nat.le_of_ble_eq_true rfl) rfl (.two (.two .no (.loop [.slot 11 (.num .i64),.box 1 [(.own 179 uk)]] .no)) .no) (fun d=>by kernel_rfl)
end R
namespace R
open Go.RowKit
open D
theorem AX:FOk Tryz.prog 301 te:=fok (V:=⟨tt,[(340,(iz dy))],[],8,[(271,198,uk)]⟩) al ⟨(pj dy),trivial⟩ mixed Tryz.func301 rfl rfl (enters_of Tryz.func301 (by kernel_rfl) rfl) rfl (Nat.le_of_ble_eq_true rfl) rfl .no (fun d=>by kernel_rfl)
theorem yD:FOk Tryz.prog 224 ru:=fok (V:=⟨tt,[(79,mf),(176,nS),(299,(kF dy)),(300,(jo dy)),(301,te)],[],25,[(271,198,uk)]⟩) al ⟨qg,q7,(rz dy),(qi dy),AX,trivial⟩ mixed Tryz.func224 rfl rfl (enters_of Tryz.func224 (by kernel_rfl) rfl) rfl (Nat.le_of_ble_eq_true rfl) rfl .no (fun d=>by kernel_rfl)
theorem rf:FOk Tryz.prog 302 kZ:=fok (V:=⟨tt,[],[],31,[]⟩) al trivial mixed Tryz.func302 rfl rfl (enters_of Tryz.func302 (by kernel_rfl) rfl) rfl (Nat.le_of_ble_eq_true rfl) rfl (.two .no (.loop [.slot 12 (.num .i64),.par 3 [3] 3 y3] (.two .no (.two .no (.two (.at [.par 3 [3] 3 y3] .no) .no))))) (fun d=>by kernel_rfl)
theorem mr: ∀n,FOk Tryz.prog 225 (fg n)
 | 0=>gz (f:=fg 0) (enters_of Tryz.func225 (by kernel_rfl) rfl) rfl (fun d=>rfl)
 | n+1=>by
  have ih:=mr n
  exact fok (V:=⟨tt,[(225,(fg n)),(302,kZ)],[],163,[(271,198,uk)]⟩) al ⟨ih,rf,trivial⟩ mixed Tryz.func225 rfl rfl (enters_of Tryz.func225 (by kernel_rfl) rfl) rfl (Nat.le_of_ble_eq_true rfl) rfl (.two .no (.two (.two .no (.two .no (.two .no (.two .no (.two .no (.two .no (.two .no (.two .no (.two (.two .no (.two .no (.two .no (.two (.two .no (.at [.box 10 [(.num .i64),(.num .i64),.boo]] .no)) (.two (.two .no (.at [.box 10 [(.num .i64),(.num .i64),.boo]] .no)) .no))))) .no))))))))) .no)) (fun d=>by kernel_rfl)
theorem tn:FOk Tryz.prog 156 mU:=fok (V:=⟨tt,[(176,nS),(224,ru),(225,(fg dy))],[],49,[(271,198,uk)]⟩) al ⟨q7,yD,(mr dy),trivial⟩ mixed Tryz.func156 rfl rfl (enters_of Tryz.func156 (by kernel_rfl) rfl) rfl (Nat.le_of_ble_eq_true rfl) rfl (.two .no (.two .no (.two .no (.two .no (.two (.two .no (.loop [.slot 6 (.num .i64),.slot 22 (.num .i64)] (.two .no (.two .no (.two (.at [.slot 6 (.num .i64)] .no) .no))))) .no))))) (fun d=>by kernel_rfl)
theorem pn:FOk Tryz.prog 113 kV:=fok (V:=⟨tt,[],[],96,[]⟩) al trivial mixed Tryz.func113 rfl rfl (enters_of Tryz.func113 (by kernel_rfl) rfl) rfl (Nat.le_of_ble_eq_true rfl) rfl (.two .no (.two .no (.two .no (.two .no (.two (.two .no (.loop [.slot 10 (.own 3 y3),.slot 11 (.map ⟨3,3,.int,.int⟩),.slot 13 (.num .i64),.box 12 [(.num .i64),(.own 4 y4),(.own 39 y39)]] (.two .no (.two (.two .no (.two (.two .no (.loop [.slot 10 (.own 3 y3),.slot 11 (.map ⟨3,3,.int,.int⟩),.slot 14 (.own 3 y3),.slot 15 (.num .i64)] (.two .no (.join [.slot 10 (.own 3 y3),.slot 11 (.map ⟨3,3,.int,.int⟩),.slot 14 (.own 3 y3)] (.two .no (.two .no (.two .no (.join [.slot 10 (.own 3 y3),.slot 11 (.map ⟨3,3,.int,.int⟩),.slot 18 (.num .i64)] .no .no)))) .no)))) .no)) .no)))) .no))))) (fun d=>by kernel_rfl)
theorem qj:FOk Tryz.prog 226 kP:=fok (V:=⟨tt,[],[],20,[]⟩) al trivial mixed Tryz.func226 rfl rfl (enters_of Tryz.func226 (by kernel_rfl) rfl) rfl (Nat.le_of_ble_eq_true rfl) rfl .no (fun d=>by kernel_rfl)
theorem sk:FOk Tryz.prog 228 mg:=fok (V:=⟨tt,[],[],61,[]⟩) al trivial mixed Tryz.func228 rfl rfl (enters_of Tryz.func228 (by kernel_rfl) rfl) rfl (Nat.le_of_ble_eq_true rfl) rfl (.two .no (.two .no (.join [.slot 7 (.num .i64)] .no (.two (.two .no (.loop [.slot 7 (.num .i64),.slot 21 (.num .i64)] (.two .no (.two .no (.join [.slot 7 (.num .i64)] .no .no))))) (.two .no (.two (.two .no (.loop [.slot 10 (.num .i64),.slot 39 (.num .i64)] (.two .no (.two .no (.join [.slot 10 (.num .i64)] .no .no))))) .no)))))) (fun d=>by kernel_rfl)
theorem uu:FOk Tryz.prog 227 nT:=fok (V:=⟨tt,[(228,mg)],[],15,[]⟩) al ⟨sk,trivial⟩ mixed Tryz.func227 rfl rfl (enters_of Tryz.func227 (by kernel_rfl) rfl) rfl (Nat.le_of_ble_eq_true rfl) rfl .no (fun d=>by kernel_rfl)
theorem xK:FOk Tryz.prog 157 pZ:=fok (V:=⟨tt,[(113,kV),(226,kP),(227,nT)],[],13,[]⟩) al ⟨pn,qj,uu,trivial⟩ mixed Tryz.func157 rfl rfl (enters_of Tryz.func157 (by kernel_rfl) rfl) rfl (Nat.le_of_ble_eq_true rfl) rfl .no (fun d=>by kernel_rfl)
theorem lC:FOk Tryz.prog 273 aY:=CF (f:=aY) (gz (f:=⟨aY.ps,aY.rs,aY.m,none⟩) (enters_of Tryz.func273 (by kernel_rfl) rfl) rfl (fun d=>rfl)) (Gp (V:=⟨tt,[],[(5,.raw)],8,[]⟩) al trivial mixed Tryz.func273 rfl rfl (enters_of Tryz.func273 (by kernel_rfl) rfl) (Nat.le_of_ble_eq_true rfl) .no (fun E bn xs=>by cases bn <;> kernel_rfl))
theorem tp:FOk Tryz.prog 198 mV:=fok (V:=⟨tt,[(273,aY)],[],48,[]⟩) al ⟨lC,trivial⟩ mixed Tryz.func198 rfl rfl (enters_of Tryz.func198 (by kernel_rfl) rfl) rfl (Nat.le_of_ble_eq_true rfl) rfl (.two .no (.two .no (.two (.two .no (.loop [.slot 4 .boo,.row 3 4 y4] (.two .no (.two .no (.two .no (.loop [.slot 4 .boo,.slot 16 (.num .i64),.row 3 4 y4] (.two .no (.two .no (.two (.two .no (.two .no (.loop [.slot 4 .boo,.slot 23 (.num .i64),.row 3 4 y4] (.two .no (.two .no (.two (.at [.slot 4 .boo,.row 3 4 y4] .no) .no)))))) .no))))))))) .no))) (fun d=>by kernel_rfl)
theorem iU:FOk Tryz.prog 274 dz:=fok (V:=⟨tt,[],[],19,[]⟩) al trivial mixed Tryz.func274 rfl rfl (enters_of Tryz.func274 (by kernel_rfl) rfl) rfl (Nat.le_of_ble_eq_true rfl) rfl (.two .no (.two (.two .no (.loop [.slot 8 (.num .i64)] .no)) .no)) (fun d=>by kernel_rfl)
theorem mB:FOk Tryz.prog 276 gI:=fok (V:=⟨tt,[],[],26,[]⟩) al trivial mixed Tryz.func276 rfl rfl (enters_of Tryz.func276 (by kernel_rfl) rfl) rfl (Nat.le_of_ble_eq_true rfl) rfl (.two .no (.two .no (.two (.two .no (.loop [.slot 13 (.num .i64)] .no)) .no))) (fun d=>by kernel_rfl)
theorem py:FOk Tryz.prog 275 jK:=fok (V:=⟨tt,[(276,gI)],[],7,[]⟩) al ⟨mB,trivial⟩ mixed Tryz.func275 rfl rfl (enters_of Tryz.func275 (by kernel_rfl) rfl) rfl (Nat.le_of_ble_eq_true rfl) rfl .no (fun d=>by kernel_rfl)
theorem rh:FOk Tryz.prog 199 k7:=fok (V:=⟨tt,[(274,dz),(275,jK)],[],70,[]⟩) al ⟨iU,py,trivial⟩ mixed Tryz.func199 rfl rfl (enters_of Tryz.func199 (by kernel_rfl) rfl) rfl (Nat.le_of_ble_eq_true rfl) rfl (.two .no (.two .no (.two .no (.two (.two .no (.loop [.slot 6 (.own 39 y39),.slot 7 (.own 3 y3),.slot 18 (.num .i64)] (.two .no (.two .no (.join [.slot 6 (.own 39 y39),.slot 7 (.own 3 y3)] (.two .no (.two .no (.two .no (.two (.two .no (.loop [.slot 36 (.num .i64),.box 10 [(.own 3 y3)]] (.two .no (.two .no (.two (.two .no (.join [.slot 12 (.num .i64)] .no .no)) .no))))) (.two .no (.join [.slot 6 (.own 39 y39),.slot 13 (.num .i64),.gone 10] .no .no)))))) .no))))) .no)))) (fun d=>by kernel_rfl)
theorem qk:FOk Tryz.prog 109 kQ:=fok (V:=⟨tt,[(198,mV),(199,k7)],[],49,[]⟩) al ⟨tp,rh,trivial⟩ mixed Tryz.func109 rfl rfl (enters_of Tryz.func109 (by kernel_rfl) rfl) rfl (Nat.le_of_ble_eq_true rfl) rfl (.two .no (.two .no (.two (.two .no (.loop [.slot 3 (.own 3 y3),.slot 13 (.num .i64)] (.two .no (.two .no (.join [.slot 3 (.own 3 y3)] .no .no))))) (.two .no (.loop [.slot 3 (.own 3 y3),.slot 6 (.num .i64)] .no))))) (fun d=>by kernel_rfl)
end R
namespace R
open Go.RowKit
open D
theorem sn:FOk Tryz.prog 320 mi:=fok (V:=⟨tt,[],[],17,[]⟩) al trivial mixed Tryz.func320 rfl rfl (enters_of Tryz.func320 (by kernel_rfl) rfl) rfl (Nat.le_of_ble_eq_true rfl) rfl .no (fun d=>by kernel_rfl)
theorem so:FOk Tryz.prog 321 mj:=fok (V:=⟨tt,[],[],51,[]⟩) al trivial mixed Tryz.func321 rfl rfl (enters_of Tryz.func321 (by kernel_rfl) rfl) rfl (Nat.le_of_ble_eq_true rfl) rfl .no (fun d=>by kernel_rfl)
theorem uv:FOk Tryz.prog 277 nU:=fok (V:=⟨tt,[(320,mi),(321,mj)],[],30,[]⟩) al ⟨sn,so,trivial⟩ mixed Tryz.func277 rfl rfl (enters_of Tryz.func277 (by kernel_rfl) rfl) rfl (Nat.le_of_ble_eq_true rfl) rfl .no (fun d=>by kernel_rfl)
theorem gl:FOk Tryz.prog 200 dt:=fok (V:=⟨tt,[(277,nU)],[(44,.bool)],48,[]⟩) al ⟨uv,trivial⟩ mixed Tryz.func200 rfl rfl (enters_of Tryz.func200 (by kernel_rfl) rfl) rfl (Nat.le_of_ble_eq_true rfl) rfl (.two .no (.two .no (.two .no (.two .no (.two .no (.two .no (.two (.loop [.slot 8 (.num .i64),.row 7 3 (.int .i64)] .no) .no))))))) (fun d=>by kernel_rfl)
theorem EF:FOk Tryz.prog 110 xm:=fok (V:=⟨tt,[(200,dt)],[],6,[]⟩) al ⟨gl,trivial⟩ mixed Tryz.func110 rfl rfl (enters_of Tryz.func110 (by kernel_rfl) rfl) rfl (Nat.le_of_ble_eq_true rfl) rfl .no (fun d=>by kernel_rfl)
theorem mC:FOk Tryz.prog 112 gJ:=fok (V:=⟨tt,[],[],19,[]⟩) al trivial mixed Tryz.func112 rfl rfl (enters_of Tryz.func112 (by kernel_rfl) rfl) rfl (Nat.le_of_ble_eq_true rfl) rfl (.two .no (.two (.two .no (.loop [.slot 8 (.num .i64)] .no)) .no)) (fun d=>by kernel_rfl)
theorem nX:FOk Tryz.prog 111 iM:=fok (V:=⟨tt,[(112,gJ)],[],7,[]⟩) al ⟨mC,trivial⟩ mixed Tryz.func111 rfl rfl (enters_of Tryz.func111 (by kernel_rfl) rfl) rfl (Nat.le_of_ble_eq_true rfl) rfl .no (fun d=>by kernel_rfl)
theorem nY:FOk Tryz.prog 114 iN:=fok (V:=⟨tt,[],[],12,[]⟩) al trivial mixed Tryz.func114 rfl rfl (enters_of Tryz.func114 (by kernel_rfl) rfl) rfl (Nat.le_of_ble_eq_true rfl) rfl .no (fun d=>by kernel_rfl)
theorem jr:FOk Tryz.prog 116 fJ:=fok (V:=⟨tt,[(201,kO)],[],22,[]⟩) al ⟨mZ,trivial⟩ mixed Tryz.func116 rfl rfl (enters_of Tryz.func116 (by kernel_rfl) rfl) rfl (Nat.le_of_ble_eq_true rfl) rfl .no (fun d=>by kernel_rfl)
theorem nZ:FOk Tryz.prog 115 iO:=fok (V:=⟨tt,[(116,fJ)],[],29,[]⟩) al ⟨jr,trivial⟩ mixed Tryz.func115 rfl rfl (enters_of Tryz.func115 (by kernel_rfl) rfl) rfl (Nat.le_of_ble_eq_true rfl) rfl .no (fun d=>by kernel_rfl)
theorem pz:FOk Tryz.prog 49 jL:=fok (V:=⟨tt,[(109,kQ),(110,xm),(111,iM),(113,kV),(114,iN),(115,iO)],[],31,[]⟩) al ⟨qk,EF,nX,pn,nY,nZ,trivial⟩ mixed Tryz.func49 rfl rfl (enters_of Tryz.func49 (by kernel_rfl) rfl) rfl (Nat.le_of_ble_eq_true rfl) rfl .no (fun d=>by kernel_rfl)
theorem K0:FOk Tryz.prog 158 CJ:=fok (V:=⟨tt,[(49,jL)],[],13,[]⟩) al ⟨pz,trivial⟩ mixed Tryz.func158 rfl rfl (enters_of Tryz.func158 (by kernel_rfl) rfl) rfl (Nat.le_of_ble_eq_true rfl) rfl .no (fun d=>by kernel_rfl)
theorem xL:FOk Tryz.prog 81 p7:=fok (V:=⟨tt,[(156,mU),(157,pZ),(158,CJ)],[],28,[]⟩) al ⟨tn,xK,K0,trivial⟩ mixed Tryz.func81 rfl rfl (enters_of Tryz.func81 (by kernel_rfl) rfl) rfl (Nat.le_of_ble_eq_true rfl) rfl .no (fun d=>by kernel_rfl)
theorem Ic:FOk Tryz.prog 248 zD:=fok (V:=⟨tt,[(80,dF)],[],27,[]⟩) al ⟨eP,trivial⟩ mixed Tryz.func248 rfl rfl (enters_of Tryz.func248 (by kernel_rfl) rfl) rfl (Nat.le_of_ble_eq_true rfl) rfl .no (fun d=>by kernel_rfl)
theorem dG:FOk Tryz.prog 175 cY:=fok (V:=⟨tt,[(80,dF),(248,zD)],[],59,[]⟩) al ⟨eP,Ic,trivial⟩ mixed Tryz.func175 rfl rfl (enters_of Tryz.func175 (by kernel_rfl) rfl) rfl (Nat.le_of_ble_eq_true rfl) rfl (.two .no (.two .no (.two (.two .no (.loop [.slot 14 (.num .i64)] .no)) (.two (.two .no (.loop [.slot 25 (.num .i64)] .no)) .no)))) (fun d=>by kernel_rfl)
theorem gO:FOk Tryz.prog 251 dZ:=fok (V:=⟨tt,[],[],20,[]⟩) al trivial mixed Tryz.func251 rfl rfl (enters_of Tryz.func251 (by kernel_rfl) rfl) rfl (Nat.le_of_ble_eq_true rfl) rfl (.two .no (.two .no (.two .no (.two (.two .no (.loop [.slot 3 (.own 128 jJ),.slot 4 (.num .i64)] .no)) .no)))) (fun d=>by kernel_rfl)
theorem xM:FOk Tryz.prog 257 p8:=fok (V:=⟨tt,[],[],13,[]⟩) al trivial mixed Tryz.func257 rfl rfl (enters_of Tryz.func257 (by kernel_rfl) rfl) rfl (Nat.le_of_ble_eq_true rfl) rfl .no (fun d=>by kernel_rfl)
end R
namespace R
open Go.RowKit
open D
theorem po:FOk Tryz.prog 178 kW:=fok (V:=⟨tt,[(257,p8)],[],20,[]⟩) al ⟨xM,trivial⟩ mixed Tryz.func178 rfl rfl (enters_of Tryz.func178 (by kernel_rfl) rfl) rfl (Nat.le_of_ble_eq_true rfl) rfl .no (fun d=>by kernel_rfl)
theorem jE (a b:Int) (W:World):Calls Tryz.prog 257 #[.int .i64 a,.int .i64 b] W fun e w'=>e= .returned (.int .i64 (cmpI a b))∧w'=W:=by
 unfold cmpI
 by_cases h:a<b
 ·go_enter Tryz.func257,Tryz.ntmps257
  go_wp2
  go_ret
  simp[h]
 ·by_cases k:b<a
  ·go_enter Tryz.func257,Tryz.ntmps257
   go_wp2
   go_ret
   simp[h,k]
  ·go_enter Tryz.func257,Tryz.ntmps257
   go_wp2
   go_ret
   simp[h,k]
theorem jF (x y:Int×Int) (W:World):Calls Tryz.prog 178 #[.agg #[.int .i64 x.1,.int .i64 x.2],.agg #[.int .i64 y.1,.int .i64 y.2]] W fun e w'=>e= .returned (.int .i64 (HO x y))∧ ∃q os',w'=Go.Sort.grow (W.drewN q) os':=by
 unfold HO
 have hcon:=jE
 generalize cmpI=cf at hcon⊢
 by_cases h:x.1=y.1
 ·rw[if_pos h]
  go_enter Tryz.func178,Tryz.ntmps178
  go_wp2_with (go_at_call 257;refine (hcon _ _ _).mono ?_;rintro e w' ⟨rfl,rfl⟩)
  go_ret
  exact ⟨rfl,0,_,by rw[Go.Sort.alloc_eq_grow,Go.Sort.alloc_eq_grow,Go.Sort.grow_grow];rfl⟩
 ·rw[if_neg h]
  go_enter Tryz.func178,Tryz.ntmps178
  go_wp2_with (go_at_call 257;refine (hcon _ _ _).mono ?_;rintro e w' ⟨rfl,rfl⟩)
  go_ret
  exact ⟨rfl,0,_,by rw[Go.Sort.alloc_eq_grow,Go.Sort.alloc_eq_grow,Go.Sort.grow_grow];rfl⟩
theorem j5:FOk Tryz.prog 259 eN:=KW yx (by intro w;kernel_rfl) (by intro w;kernel_rfl) Ov Ow (enters_of Tryz.func178 (by kernel_rfl) rfl) (fun _ _ _ _ _ _ _ _ x y=>jF x y _) (enters_of Tryz.func259 (by kernel_rfl) rfl) 128
theorem kR:FOk Tryz.prog 260 eV:=fok (V:=⟨tt,[],[(28,.raw),(56,.raw),(59,.raw)],61,[]⟩) al trivial mixed Tryz.func260 rfl rfl (enters_of Tryz.func260 (by kernel_rfl) rfl) rfl (Nat.le_of_ble_eq_true rfl) rfl (.two .no (.two .no (.two (.two .no (.loop [.slot 3 (.num .i64)] (.two .no (.two (.two .no (.two (.two .no (.two (.two .no (.loop [.slot 3 (.num .i64),.slot 5 (.num .i64),.row 0 128 jJ] (.two .no (.two (.at [.slot 3 (.num .i64),.row 0 128 jJ] .no) .no)))) .no)) .no)) .no)))) .no))) (fun d=>by kernel_rfl)
theorem oY:FOk Tryz.prog 180 mn:=fok (V:=⟨tt,[(178,kW),(259,eN),(260,eV)],[],11,[]⟩) al ⟨po,j5,kR,trivial⟩ mixed Tryz.func180 rfl rfl (enters_of Tryz.func180 (by kernel_rfl) rfl) rfl (Nat.le_of_ble_eq_true rfl) rfl .no (fun d=>by kernel_rfl)
theorem CU:FOk Tryz.prog 344 xn:=fok (V:=⟨tt,[],[],13,[]⟩) al trivial mixed Tryz.func344 rfl rfl (enters_of Tryz.func344 (by kernel_rfl) rfl) rfl (Nat.le_of_ble_eq_true rfl) rfl .no (fun d=>by kernel_rfl)
theorem Gu:FOk Tryz.prog 311 AT:=fok (V:=⟨tt,[(344,xn)],[],57,[]⟩) al ⟨CU,trivial⟩ mixed Tryz.func311 rfl rfl (enters_of Tryz.func311 (by kernel_rfl) rfl) rfl (Nat.le_of_ble_eq_true rfl) rfl (.two .no (.two .no (.two (.two .no (.loop [.slot 13 (.num .i64),.row 3 313 V5] .no)) .no))) (fun d=>by kernel_rfl)
theorem EG:FOk Tryz.prog 312 xo:=fok (V:=⟨tt,[(80,dF),(175,cY),(201,kO)],[],31,[]⟩) al ⟨eP,dG,mZ,trivial⟩ mixed Tryz.func312 rfl rfl (enters_of Tryz.func312 (by kernel_rfl) rfl) rfl (Nat.le_of_ble_eq_true rfl) rfl .no (fun d=>by kernel_rfl)
theorem tq:FOk Tryz.prog 252 mW:=fok (V:=⟨tt,[(175,cY),(180,mn),(201,kO),(311,AT),(312,xo)],[],58,[]⟩) al ⟨dG,oY,mZ,Gu,EG,trivial⟩ mixed Tryz.func252 rfl rfl (enters_of Tryz.func252 (by kernel_rfl) rfl) rfl (Nat.le_of_ble_eq_true rfl) rfl (.two .no (.two .no (.two .no (.two (.two .no (.loop [.slot 5 (.own 128 jJ),.slot 22 (.num .i64)] (.two .no (.two .no (.two (.at [.slot 5 (.own 128 jJ)] (.two .no (.two (.two .no (.loop [.slot 5 (.own 128 jJ),.slot 29 (.num .i64)] (.two .no (.two .no (.two (.at [.slot 5 (.own 128 jJ)] .no) .no))))) .no))) .no))))) .no)))) (fun d=>by kernel_rfl)
theorem gP:FOk Tryz.prog 253 eh:=fok (V:=⟨tt,[(180,mn)],[],41,[]⟩) al ⟨oY,trivial⟩ mixed Tryz.func253 rfl rfl (enters_of Tryz.func253 (by kernel_rfl) rfl) rfl (Nat.le_of_ble_eq_true rfl) rfl (.two .no (.two .no (.two (.two .no (.loop [.slot 5 (.own 128 jJ),.slot 14 (.num .i64)] (.two .no (.two .no (.two (.two .no (.two .no (.loop [.slot 5 (.own 128 jJ),.slot 20 (.num .i64)] (.two .no (.two .no (.join [.slot 5 (.own 128 jJ)] .no .no)))))) .no))))) .no))) (fun d=>by kernel_rfl)
theorem ny:FOk Tryz.prog 254 kG:=fok (V:=⟨tt,[(180,mn)],[],11,[]⟩) al ⟨oY,trivial⟩ mixed Tryz.func254 rfl rfl (enters_of Tryz.func254 (by kernel_rfl) rfl) rfl (Nat.le_of_ble_eq_true rfl) rfl .no (fun d=>by kernel_rfl)
theorem ql:FOk Tryz.prog 97 mX:=fok (V:=⟨tt,[(80,dF),(178,kW)],[],37,[]⟩) al ⟨eP,po,trivial⟩ mixed Tryz.func97 rfl rfl (enters_of Tryz.func97 (by kernel_rfl) rfl) rfl (Nat.le_of_ble_eq_true rfl) rfl (.two .no (.two (.two .no (.loop [.slot 7 (.num .i64)] .no)) .no)) (fun d=>by kernel_rfl)
theorem sp:FOk Tryz.prog 255 mo:=fok (V:=⟨tt,[(80,dF),(97,mX),(251,dZ),(253,eh),(254,kG)],[],29,[]⟩) al ⟨eP,ql,gO,gP,ny,trivial⟩ mixed Tryz.func255 rfl rfl (enters_of Tryz.func255 (by kernel_rfl) rfl) rfl (Nat.le_of_ble_eq_true rfl) rfl (.two .no (.two .no (.two .no (.loop [.slot 5 (.own 128 jJ)] .no)))) (fun d=>by kernel_rfl)
theorem uw:FOk Tryz.prog 256 nV:=fok (V:=⟨tt,[(80,dF),(97,mX),(251,dZ),(253,eh),(254,kG)],[],47,[]⟩) al ⟨eP,ql,gO,gP,ny,trivial⟩ mixed Tryz.func256 rfl rfl (enters_of Tryz.func256 (by kernel_rfl) rfl) rfl (Nat.le_of_ble_eq_true rfl) rfl (.two .no (.two .no (.two .no (.two .no (.two (.two .no (.loop [.slot 9 (.own 128 jJ),.slot 10 (.own 128 jJ),.slot 11 (.num .i64)] (.two .no (.two (.join [.slot 9 (.own 128 jJ)] .no .no) .no)))) .no))))) (fun d=>by kernel_rfl)
theorem n9: ∀n,FOk Tryz.prog 177 (gG n)
 | 0=>gz (f:=gG 0) (enters_of Tryz.func177 (by kernel_rfl) rfl) rfl (fun d=>rfl)
 | n+1=>by
  have ih:=n9 n
  exact fok (V:=⟨tt,[(177,(gG n)),(251,dZ),(252,mW),(253,eh),(254,kG),(255,mo),(256,nV)],[],100,[(271,198,uk)]⟩) al ⟨ih,gO,tq,gP,ny,sp,uw,trivial⟩ mixed Tryz.func177 rfl rfl (enters_of Tryz.func177 (by kernel_rfl) rfl) rfl (Nat.le_of_ble_eq_true rfl) rfl .no (fun d=>by kernel_rfl)
theorem vv:FOk Tryz.prog 96 pf:=fok (V:=⟨tt,[(79,mf),(175,cY),(176,nS),(177,(gG dy))],[],18,[(271,198,uk)]⟩) al ⟨qg,dG,q7,(n9 dy),trivial⟩ mixed Tryz.func96 rfl rfl (enters_of Tryz.func96 (by kernel_rfl) rfl) rfl (Nat.le_of_ble_eq_true rfl) rfl .no (fun d=>by kernel_rfl)
theorem jG:FOk Tryz.prog 258 dQ:=fok (V:=⟨tt,[],[],19,[]⟩) al trivial mixed Tryz.func258 rfl rfl (enters_of Tryz.func258 (by kernel_rfl) rfl) rfl (Nat.le_of_ble_eq_true rfl) rfl (.two .no (.two (.two .no (.loop [.slot 8 (.num .i64)] .no)) .no)) (fun d=>by kernel_rfl)
theorem jt:FOk Tryz.prog 179 dL:=fok (V:=⟨tt,[(258,dQ)],[(38,.raw),(41,.raw)],42,[]⟩) al ⟨jG,trivial⟩ mixed Tryz.func179 rfl rfl (enters_of Tryz.func179 (by kernel_rfl) rfl) rfl (Nat.le_of_ble_eq_true rfl) rfl (.two .no (.two .no (.two .no (.two (.two .no (.loop [.slot 5 (.num .i64),.slot 6 (.num .i64),.row 0 128 jJ] (.two .no (.two (.at [.slot 5 (.num .i64),.row 0 128 jJ] .no) .no)))) .no)))) (fun d=>by kernel_rfl)
end R
namespace R
open Go.RowKit
open D
theorem lD:FOk Tryz.prog 261 fK:=fok (V:=⟨tt,[],[],19,[]⟩) al trivial mixed Tryz.func261 rfl rfl (enters_of Tryz.func261 (by kernel_rfl) rfl) rfl (Nat.le_of_ble_eq_true rfl) rfl (.two .no (.two (.two .no (.loop [.slot 8 (.num .i64)] .no)) .no)) (fun d=>by kernel_rfl)
theorem j6:FOk Tryz.prog 182 eO:=fok (V:=⟨tt,[(261,fK)],[],9,[]⟩) al ⟨lD,trivial⟩ mixed Tryz.func182 rfl rfl (enters_of Tryz.func182 (by kernel_rfl) rfl) rfl (Nat.le_of_ble_eq_true rfl) rfl .no (fun d=>by kernel_rfl)
theorem sq:FOk Tryz.prog 181 mq:=fok (V:=⟨tt,[(182,eO)],[],7,[]⟩) al ⟨j6,trivial⟩ mixed Tryz.func181 rfl rfl (enters_of Tryz.func181 (by kernel_rfl) rfl) rfl (Nat.le_of_ble_eq_true rfl) rfl .no (fun d=>by kernel_rfl)
theorem uy:FOk Tryz.prog 98 nW:=fok (V:=⟨tt,[(179,dL),(180,mn),(181,mq)],[],9,[]⟩) al ⟨jt,oY,sq,trivial⟩ mixed Tryz.func98 rfl rfl (enters_of Tryz.func98 (by kernel_rfl) rfl) rfl (Nat.le_of_ble_eq_true rfl) rfl .no (fun d=>by kernel_rfl)
theorem jH:FOk Tryz.prog 369 dR:=fok (V:=⟨tt,[],[],19,[]⟩) al trivial mixed Tryz.func369 rfl rfl (enters_of Tryz.func369 (by kernel_rfl) rfl) rfl (Nat.le_of_ble_eq_true rfl) rfl (.two .no (.two (.two .no (.loop [.slot 8 (.num .i64)] .no)) .no)) (fun d=>by kernel_rfl)
theorem xN:FOk Tryz.prog 370 p9:=fok (V:=⟨tt,[],[],8,[]⟩) al trivial mixed Tryz.func370 rfl rfl (enters_of Tryz.func370 (by kernel_rfl) rfl) rfl (Nat.le_of_ble_eq_true rfl) rfl .no (fun d=>by kernel_rfl)
theorem AY:FOk Tryz.prog 366 tf:=fok (V:=⟨tt,[(369,dR),(370,p9)],[],9,[]⟩) al ⟨jH,xN,trivial⟩ mixed Tryz.func366 rfl rfl (enters_of Tryz.func366 (by kernel_rfl) rfl) rfl (Nat.le_of_ble_eq_true rfl) rfl .no (fun d=>by kernel_rfl)
theorem vj:FOk Tryz.prog 353 qa:=fok (V:=⟨tt,[(175,cY),(366,tf)],[],24,[]⟩) al ⟨dG,AY,trivial⟩ mixed Tryz.func353 rfl rfl (enters_of Tryz.func353 (by kernel_rfl) rfl) rfl (Nat.le_of_ble_eq_true rfl) rfl .no (fun d=>by kernel_rfl)
theorem vk:FOk Tryz.prog 314 qb:=fok (V:=⟨tt,[(353,qa)],[],23,[]⟩) al ⟨vj,trivial⟩ mixed Tryz.func314 rfl rfl (enters_of Tryz.func314 (by kernel_rfl) rfl) rfl (Nat.le_of_ble_eq_true rfl) rfl .no (fun d=>by kernel_rfl)
theorem Ie:FOk Tryz.prog 315 zF:=fok (V:=⟨tt,[(314,qb)],[],13,[]⟩) al ⟨vk,trivial⟩ mixed Tryz.func315 rfl rfl (enters_of Tryz.func315 (by kernel_rfl) rfl) rfl (Nat.le_of_ble_eq_true rfl) rfl .no (fun d=>by kernel_rfl)
theorem xO:FOk Tryz.prog 262 sg:=fok (V:=⟨tt,[(80,dF),(175,cY),(314,qb),(315,zF)],[],56,[]⟩) al ⟨eP,dG,vk,Ie,trivial⟩ mixed Tryz.func262 rfl rfl (enters_of Tryz.func262 (by kernel_rfl) rfl) rfl (Nat.le_of_ble_eq_true rfl) rfl (.two .no (.two .no (.two .no (.two (.two .no (.loop [.slot 6 (.own 3 y3),.slot 34 (.num .i64)] .no)) .no)))) (fun d=>by kernel_rfl)
theorem EH:FOk Tryz.prog 183 xp:=fok (V:=⟨tt,[(262,sg)],[],21,[]⟩) al ⟨xO,trivial⟩ mixed Tryz.func183 rfl rfl (enters_of Tryz.func183 (by kernel_rfl) rfl) rfl (Nat.le_of_ble_eq_true rfl) rfl .no (fun d=>by kernel_rfl)
theorem k9:FOk Tryz.prog 48 gL:=fok (V:=⟨tt,[(80,dF)],[],52,[]⟩) al ⟨eP,trivial⟩ mixed Tryz.func48 rfl rfl (enters_of Tryz.func48 (by kernel_rfl) rfl) rfl (Nat.le_of_ble_eq_true rfl) rfl (.two .no (.two .no (.two .no (.two (.two .no (.loop [.slot 32 (.num .i64)] (.two .no (.two .no (.two (.two .no (.two (.two .no (.loop [.slot 38 (.num .i64)] .no)) .no)) .no))))) .no)))) (fun d=>by kernel_rfl)
theorem sr:FOk Tryz.prog 318 oT:=fok (V:=⟨tt,[],[],22,[]⟩) al trivial mixed Tryz.func318 rfl rfl (enters_of Tryz.func318 (by kernel_rfl) rfl) rfl (Nat.le_of_ble_eq_true rfl) rfl (.two .no (.two .no (.two (.two .no (.loop [.slot 3 (.own 3 y3),.slot 4 (.num .i64)] (.two .no (.join [.slot 3 (.own 3 y3)] .no .no)))) .no))) (fun d=>by kernel_rfl)
theorem xP:FOk Tryz.prog 319 si:=fok (V:=⟨tt,[(116,fJ)],[],29,[]⟩) al ⟨jr,trivial⟩ mixed Tryz.func319 rfl rfl (enters_of Tryz.func319 (by kernel_rfl) rfl) rfl (Nat.le_of_ble_eq_true rfl) rfl (.two .no (.two .no (.two (.two .no (.loop [.slot 7 (.num .i64),.slot 8 (.num .i64)] .no)) .no))) (fun d=>by kernel_rfl)
theorem CV:FOk Tryz.prog 316 xq:=fok (V:=⟨tt,[(116,fJ),(318,oT),(319,si)],[],45,[]⟩) al ⟨jr,sr,xP,trivial⟩ mixed Tryz.func316 rfl rfl (enters_of Tryz.func316 (by kernel_rfl) rfl) rfl (Nat.le_of_ble_eq_true rfl) rfl (.two .no (.two .no (.two (.two .no (.loop [.slot 9 (.num .i64),.slot 18 (.num .i64)] (.two .no (.two .no (.two (.two .no (.two .no (.loop [.slot 9 (.num .i64),.slot 28 (.num .i64)] (.two .no (.two .no (.join [.slot 9 (.num .i64)] .no .no)))))) .no))))) .no))) (fun d=>by kernel_rfl)
theorem yE:FOk Tryz.prog 317 rv:=fok (V:=⟨tt,[(344,xn),(353,qa)],[],19,[]⟩) al ⟨CU,vj,trivial⟩ mixed Tryz.func317 rfl rfl (enters_of Tryz.func317 (by kernel_rfl) rfl) rfl (Nat.le_of_ble_eq_true rfl) rfl .no (fun d=>by kernel_rfl)
end R
namespace R
open Go.RowKit
open D
theorem K4:FOk Tryz.prog 263 CK:=fok (V:=⟨tt,[(48,gL),(262,sg),(316,xq),(317,rv)],[],62,[]⟩) al ⟨k9,xO,CV,yE,trivial⟩ mixed Tryz.func263 rfl rfl (enters_of Tryz.func263 (by kernel_rfl) rfl) rfl (Nat.le_of_ble_eq_true rfl) rfl (.two .no (.two .no (.two .no (.two .no (.two (.two .no (.loop [.slot 11 (.own 3 y3),.slot 34 (.num .i64)] .no)) .no))))) (fun d=>by kernel_rfl)
theorem tu:FOk Tryz.prog 264 oU:=fok (V:=⟨tt,[(318,oT),(319,si)],[],35,[]⟩) al ⟨sr,xP,trivial⟩ mixed Tryz.func264 rfl rfl (enters_of Tryz.func264 (by kernel_rfl) rfl) rfl (Nat.le_of_ble_eq_true rfl) rfl (.two .no (.two (.two .no (.loop [.slot 14 (.num .i64)] (.two .no (.two .no (.two (.two .no (.two .no (.loop [.slot 24 (.num .i64)] .no))) .no))))) .no)) (fun d=>by kernel_rfl)
theorem xQ:FOk Tryz.prog 184 qc:=fok (V:=⟨tt,[(263,CK),(264,oU)],[],39,[]⟩) al ⟨K4,tu,trivial⟩ mixed Tryz.func184 rfl rfl (enters_of Tryz.func184 (by kernel_rfl) rfl) rfl (Nat.le_of_ble_eq_true rfl) rfl .no (fun d=>by kernel_rfl)
theorem AZ:FOk Tryz.prog 99 tg:=fok (V:=⟨tt,[(183,xp),(184,qc)],[],28,[]⟩) al ⟨EH,xQ,trivial⟩ mixed Tryz.func99 rfl rfl (enters_of Tryz.func99 (by kernel_rfl) rfl) rfl (Nat.le_of_ble_eq_true rfl) rfl .no (fun d=>by kernel_rfl)
theorem zO:FOk Tryz.prog 185 uo:=fok (V:=⟨tt,[(48,gL),(80,dF),(175,cY)],[],29,[]⟩) al ⟨k9,eP,dG,trivial⟩ mixed Tryz.func185 rfl rfl (enters_of Tryz.func185 (by kernel_rfl) rfl) rfl (Nat.le_of_ble_eq_true rfl) rfl (.two .no (.two (.two .no (.loop [.slot 11 (.num .i64)] .no)) .no)) (fun d=>by kernel_rfl)
theorem If:FOk Tryz.prog 265 zG:=fok (V:=⟨tt,[(200,dt)],[(34,.bool)],67,[]⟩) al ⟨gl,trivial⟩ mixed Tryz.func265 rfl rfl (enters_of Tryz.func265 (by kernel_rfl) rfl) rfl (Nat.le_of_ble_eq_true rfl) rfl (.two .no (.two .no (.two .no (.two (.two .no (.loop [.slot 6 (.own 3 (.int .i64)),.slot 18 (.num .i64),.row 5 3 y3] .no)) (.two (.loop [.slot 6 (.own 3 (.int .i64)),.row 5 3 y3] (.two .no (.two (.two .no (.loop [.slot 6 (.own 3 y3),.slot 42 (.num .i64),.row 5 3 y3] (.two .no (.two .no (.two (.at [.slot 6 (.own 3 y3),.row 5 3 y3] .no) .no))))) .no))) .no))))) (fun d=>by kernel_rfl)
theorem Ig:FOk Tryz.prog 266 zH:=fok (V:=⟨tt,[],[],37,[]⟩) al trivial mixed Tryz.func266 rfl rfl (enters_of Tryz.func266 (by kernel_rfl) rfl) rfl (Nat.le_of_ble_eq_true rfl) rfl (.two .no (.two .no (.two (.two .no (.loop [.slot 13 (.num .i64),.row 3 39 y39] (.two .no (.two .no (.two (.two .no (.two .no (.loop [.slot 20 (.num .i64),.row 3 39 y39] .no))) .no))))) .no))) (fun d=>by kernel_rfl)
theorem vx:FOk Tryz.prog 267 pg:=fok (V:=⟨tt,[(311,AT),(316,xq),(318,oT)],[],86,[]⟩) al ⟨Gu,CV,sr,trivial⟩ mixed Tryz.func267 rfl rfl (enters_of Tryz.func267 (by kernel_rfl) rfl) rfl (Nat.le_of_ble_eq_true rfl) rfl (.two .no (.two .no (.two .no (.two (.two .no (.loop [.slot 26 (.num .i64),.row 6 39 y39] (.two .no (.two .no (.two (.two .no (.two .no (.loop [.slot 9 (.num .i64),.row 6 39 y39] (.two .no (.two (.two .no (.loop [.slot 38 (.num .i64),.row 6 39 y39] (.two .no (.two .no (.two (.two .no (.two .no (.loop [.slot 55 (.num .i64),.row 6 39 y39] .no))) .no))))) .no))))) .no))))) .no)))) (fun d=>by kernel_rfl)
theorem K5:FOk Tryz.prog 268 CL:=fok (V:=⟨tt,[(264,oU)],[],37,[]⟩) al ⟨tu,trivial⟩ mixed Tryz.func268 rfl rfl (enters_of Tryz.func268 (by kernel_rfl) rfl) rfl (Nat.le_of_ble_eq_true rfl) rfl (.two .no (.two .no (.two .no (.two (.two .no (.loop [.slot 8 (.own 3 y3),.slot 9 (.num .i64)] (.two .no (.join [.slot 8 (.own 3 y3)] .no .no)))) .no)))) (fun d=>by kernel_rfl)
theorem xR:FOk Tryz.prog 186 qd:=fok (V:=⟨tt,[(185,uo),(265,zG),(266,zH),(267,pg),(268,CL)],[],22,[]⟩) al ⟨zO,If,Ig,vx,K5,trivial⟩ mixed Tryz.func186 rfl rfl (enters_of Tryz.func186 (by kernel_rfl) rfl) rfl (Nat.le_of_ble_eq_true rfl) rfl .no (fun d=>by kernel_rfl)
theorem tv:FOk Tryz.prog 100 mY:=fok (V:=⟨tt,[(185,uo),(186,qd)],[],30,[]⟩) al ⟨zO,xR,trivial⟩ mixed Tryz.func100 rfl rfl (enters_of Tryz.func100 (by kernel_rfl) rfl) rfl (Nat.le_of_ble_eq_true rfl) rfl .no (fun d=>by kernel_rfl)
theorem vy:FOk Tryz.prog 36 ph:=fok (V:=⟨tt,[(81,p7),(96,pf),(97,mX),(98,nW),(99,tg),(100,mY)],[],91,[]⟩) al ⟨xL,vv,ql,uy,AZ,tv,trivial⟩ mixed Tryz.func36 rfl rfl (enters_of Tryz.func36 (by kernel_rfl) rfl) rfl (Nat.le_of_ble_eq_true rfl) rfl (.two .no (.two .no (.two .no (.two .no (.two (.two .no (.loop [.slot 59 (.num .i64)] .no)) .no))))) (fun d=>by kernel_rfl)
theorem Ih:FOk Tryz.prog 19 zI:=fok (V:=⟨tt,[],[],26,[]⟩) al trivial mixed Tryz.func19 rfl rfl (enters_of Tryz.func19 (by kernel_rfl) rfl) rfl (Nat.le_of_ble_eq_true rfl) rfl (.two .no (.two .no (.two (.two .no (.loop [.slot 5 (.num .i64)] .no)) .no))) (fun d=>by kernel_rfl)
theorem Ii:FOk Tryz.prog 187 zJ:=fok (V:=⟨tt,[],[],25,[]⟩) al trivial mixed Tryz.func187 rfl rfl (enters_of Tryz.func187 (by kernel_rfl) rfl) rfl (Nat.le_of_ble_eq_true rfl) rfl .no (fun d=>by kernel_rfl)
theorem EI:FOk Tryz.prog 101 xr:=fok (V:=⟨tt,[(187,zJ)],[],27,[]⟩) al ⟨Ii,trivial⟩ mixed Tryz.func101 rfl rfl (enters_of Tryz.func101 (by kernel_rfl) rfl) rfl (Nat.le_of_ble_eq_true rfl) rfl (.two .no (.two .no (.two (.two .no (.loop [.slot 5 (.num .i64)] .no)) .no))) (fun d=>by kernel_rfl)
theorem EJ:FOk Tryz.prog 37 xt:=fok (V:=⟨tt,[(19,zI),(101,xr)],[],17,[]⟩) al ⟨Ih,EI,trivial⟩ mixed Tryz.func37 rfl rfl (enters_of Tryz.func37 (by kernel_rfl) rfl) rfl (Nat.le_of_ble_eq_true rfl) rfl .no (fun d=>by kernel_rfl)
theorem Ij:FOk Tryz.prog 102 zK:=fok (V:=⟨tt,[],[],15,[]⟩) al trivial mixed Tryz.func102 rfl rfl (enters_of Tryz.func102 (by kernel_rfl) rfl) rfl (Nat.le_of_ble_eq_true rfl) rfl .no (fun d=>by kernel_rfl)
end R
namespace R
open Go.RowKit
open D
theorem EK:FOk Tryz.prog 38 xu:=fok (V:=⟨tt,[(102,zK)],[],27,[]⟩) al ⟨Ij,trivial⟩ mixed Tryz.func38 rfl rfl (enters_of Tryz.func38 (by kernel_rfl) rfl) rfl (Nat.le_of_ble_eq_true rfl) rfl (.two .no (.two .no (.two (.two .no (.loop [.slot 5 (.num .i64)] .no)) .no))) (fun d=>by kernel_rfl)
theorem Ik:FOk Tryz.prog 269 zL:=fok (V:=⟨tt,[],[],15,[]⟩) al trivial mixed Tryz.func269 rfl rfl (enters_of Tryz.func269 (by kernel_rfl) rfl) rfl (Nat.le_of_ble_eq_true rfl) rfl .no (fun d=>by kernel_rfl)
theorem EL:FOk Tryz.prog 188 xw:=fok (V:=⟨tt,[(269,zL)],[],27,[]⟩) al ⟨Ik,trivial⟩ mixed Tryz.func188 rfl rfl (enters_of Tryz.func188 (by kernel_rfl) rfl) rfl (Nat.le_of_ble_eq_true rfl) rfl (.two .no (.two .no (.two (.two .no (.loop [.slot 5 (.num .i64)] .no)) .no))) (fun d=>by kernel_rfl)
theorem Il:FOk Tryz.prog 103 zM:=fok (V:=⟨tt,[(188,xw)],[],16,[]⟩) al ⟨EL,trivial⟩ mixed Tryz.func103 rfl rfl (enters_of Tryz.func103 (by kernel_rfl) rfl) rfl (Nat.le_of_ble_eq_true rfl) rfl .no (fun d=>by kernel_rfl)
theorem EM:FOk Tryz.prog 39 xx:=fok (V:=⟨tt,[(103,zM)],[],27,[]⟩) al ⟨Il,trivial⟩ mixed Tryz.func39 rfl rfl (enters_of Tryz.func39 (by kernel_rfl) rfl) rfl (Nat.le_of_ble_eq_true rfl) rfl (.two .no (.two .no (.two (.two .no (.loop [.slot 5 (.num .i64)] .no)) .no))) (fun d=>by kernel_rfl)
theorem oZ:FOk Tryz.prog 7 oV:=fok (V:=⟨tt,[(24,zi),(26,zj),(28,zk),(29,w4),(30,w5),(31,w7),(32,pe),(33,xh),(34,xi),(35,xk),(36,ph),(37,xt),(38,xu),(39,xx)],[],81,[]⟩) al ⟨HP,HQ,HS,En,Eo,Er,vu,EA,EB,ED,vy,EJ,EK,EM,trivial⟩ mixed Tryz.func7 rfl rfl (enters_of Tryz.func7 (by kernel_rfl) rfl) rfl (Nat.le_of_ble_eq_true rfl) rfl .no (fun d=>by kernel_rfl)
end R
namespace D
open Go.RowKit
theorem o0 (x0:(List Int)×(List (Int×Int×Int×Int))) (x1:(List (Int×Int×Int×Int))) (x2:List (Int×Int)) (x3:List (Int×(List (Int×Bool)))) (r:Bool) (hm:dg x0 x1 x2 x3=some r) {I:Hp} {w0:World} (v0_0:Value) (v0_1:Value) (v1_0:Value) (v2_0:Value) (v3_0:Value) (r0_0:(af 3 cZ).rd I [v0_0] x0.1) (r0_1:(af 196 (bc cZ (bc cZ (bc cZ cZ)))).rd I [v0_1] x0.2) (r1_0:(af 181 (bc cZ (bc cZ (bc cZ cZ)))).rd I [v1_0] x1) (r2_0:(af 136 (bc cZ cZ)).rd I [v2_0] x2) (r3_0:(af 121 (bc cZ (af 265 (bc cZ rA)))).rd I [v3_0] x3) (hL:Lay Tryz.prog I):Con Tryz.prog 7 #[.agg #[v0_0,v0_1],.agg #[v1_0],v2_0,v3_0] I w0 [] (fun v=>v= .bool r) (fun _=>[]):=fun w C hs =>
 ((R.oZ).con w0 I [.agg #[v0_0,v0_1],.agg #[v1_0],v2_0,v3_0] (x0,(x1,(x2,(x3,())))) r hL ⟨_,_,rfl,⟨[v0_0,v0_1],rfl,⟨_,_,rfl,r0_0,r0_1⟩⟩,⟨_,_,rfl,⟨[v1_0],rfl,r1_0⟩,⟨_,_,rfl,⟨[v2_0],rfl,r2_0⟩,⟨_,_,rfl,⟨[v3_0],rfl,r3_0⟩,rfl⟩⟩⟩⟩ hm w C hs).mono fun e w' ⟨v,he,_,hst⟩=>by
  obtain ⟨h1,h2⟩:=R.sL (h1:=fun _=>rfl) (show St I w0 w' (Ch.own R.Ty.bool.rep [v] r::C) from hst)
  exact ⟨v,he,(List.cons.inj h1).1,h2⟩
end D
namespace D
open Go.RowKit
def I64 (n:Int):Prop:= -9223372036854775808≤n∧n≤9223372036854775807
class Data (α:Type) where
 lim:α→Prop
 sm:α→Prop
instance:Data Int:=⟨I64,fun _=>True⟩
instance:Data Bool:=⟨fun _=>True,fun _=>True⟩
instance:Data ByteArray:=⟨fun s=>s.size≤9223372036854775807,fun s=>s.size≤1048576⟩
instance {α β:Type} [Data α] [Data β] :Data (α×β):=⟨fun x=>Data.lim x.1∧Data.lim x.2,fun x=>Data.sm x.1∧Data.sm x.2⟩
instance {α:Type} [Data α] :Data (List α):=⟨fun xs=>xs.length≤9223372036854775807∧ ∀x,x∈xs→Data.lim x,fun xs=>xs.length≤1048576∧ ∀x,x∈xs→Data.sm x⟩
structure Opens (P:Program) (t:TypeId) {α:Type} [Data α] (R:Rep α):Prop where
 out: ∀ {H:Type} (enc:TypeId×Value→H) (w:World) (fuel:Nat) (cs:List Value) (x:DataW H×List MemPlace),DataW.trod enc P w 0 (fun _=>true) true fuel t cs=some x→ ∃a:α,R.rd (hp w) cs a∧Data.lim a
theorem K6 {P:Program} {t:TypeId} (h:P.underlying t=some (.int .i64)):Opens P t cZ:=by
 constructor
 intro H enc w fuel cs x hx
 obtain ⟨n,rfl,-,hw⟩:=DataW.trod_int h hx
 refine ⟨n,rfl,show I64 n from ?_⟩
 simp[Lit.wf,IntKind.min,IntKind.max,IntKind.signed,IntKind.bits] at hw
 unfold I64
 omega
theorem Im {P:Program} {t:TypeId} (h:P.underlying t=some .bool):Opens P t rA:=by
 constructor
 intro H enc w fuel cs x hx
 obtain ⟨n,rfl,-⟩:=DataW.trod_bool h hx
 exact ⟨n,rfl,trivial⟩
theorem j7 {P:Program} {t e:TypeId} {α:Type} [Data α] {R:Rep α} {E:TypeId} (h:P.underlying t=some (.slice e)) (hc:P.cellsOf e=R.size) (h0:0<R.size) (he:Opens P e R):Opens P t (af E R):=by
 constructor
 intro H enc w fuel cs x hx
 rcases Go.Deep.open_slice h hx with ⟨rfl,-⟩ | ⟨a,len,cap,m,n,D,Pl,rfl,-,hl,hm,hmm,-,hel⟩
 ·exact ⟨[],⟨none,0,rfl,by simp,.inl rfl⟩,Nat.zero_le _,fun x hx=>by cases hx⟩
 have hlm:m=cap:=by simpa using hmm
 subst hlm
 rw[hc] at hel
 by_cases hz:len=0
 ·subst hz
  exact ⟨[],⟨some a,m,rfl,by simp,.inl rfl⟩,Nat.zero_le _,fun x hx=>by cases hx⟩
 ·have hone: ∀i,i<len→ ∃c:List Value,∃y:α,c.length=R.size∧(∀j,j<R.size→w.cell? ((a.add (i*R.size)).add j)=c[j]?)∧R.rd (hp w) c y∧Data.lim y:=by
   intro i hi
   obtain ⟨c,h1,h2⟩:=hel i (by omega)
   obtain ⟨-,h3,h4⟩:=World.cells?_some h1
   obtain ⟨y,hy⟩:=he.out enc w _ _ _ h2
   exact ⟨c,y,h3,h4,hy⟩
  obtain ⟨c0,y0,hc0,hr0,-⟩:=hone 0 (by omega)
  have h00:=hr0 0 h0
  have hsome: ∃v,c0[0]? =some v:=⟨_,List.getElem?_eq_getElem (by omega)⟩
  obtain ⟨v,hv⟩:=hsome
  rw[hv] at h00
  have ha:(a.add (0*R.size)).add 0=a:=by simp[Addr.add]
  rw[ha] at h00
  obtain ⟨b,off,spot⟩:=a
  have hb: ∃ccs T fr,w.heap[b]? =some (.cells ccs T fr)∧spot=none:=by
   simp only[World.cell?] at h00
   split at h00
   ·rename_i ccs T fr heq
    cases spot with
    | none=>exact ⟨ccs,T,fr,heq,rfl⟩
    | some s=>simp at h00
   ·simp at h00
  obtain ⟨ccs,T,fr,hh,rfl⟩:=hb
  have hadd: ∀i j,(Addr.add ⟨b,off,none⟩ i).add j=⟨b,off+i+j,none⟩:=by
   intro i j
   by_cases h1:i=0 <;> by_cases h2:j=0 <;> simp[Addr.add,h1,h2,Nat.add_assoc]
  haveI:Inhabited α:=⟨y0⟩
  obtain ⟨X,hX⟩:=Go.Deep.choose_lt (α:=α) (n:=len) (p:=fun i y=> ∃c:List Value,c.length=R.size∧(∀j,j<R.size→ccs.toList[off+i*R.size+j]? =c[j]?)∧R.rd (hp w) c y∧Data.lim y) (fun i hi=>by
   obtain ⟨c,y,h1,h2,h3⟩:=hone i hi
   refine ⟨y,c,h1,fun j hj=>?_,h3⟩
   have:=h2 j hj
   rw[hadd] at this
   simp only[World.cell?,hh] at this
   simpa using this)
  have hlen:((List.range len).map X).length=len:=by simp
  have hel2: ∀i y,((List.range len).map X)[i]? =some y→i<len∧y=X i:=fun i y hy=>by
   have hi:i<len:=by have:=(List.getElem?_eq_some_iff.1 hy).1;omega
   exact ⟨hi,by simpa [hi] using hy.symm⟩
  refine ⟨(List.range len).map X,⟨some ⟨b,off,none⟩,m,by rw[hlen],by rw[hlen];unfold maxLen at hm;unfold lim;omega,.inr ⟨b,off,ccs,T,fr,rfl,hh,fun i y hy=>?_⟩⟩,by rw[hlen];unfold maxLen at hm;omega,fun y hy=>?_⟩
  ·obtain ⟨hi,rfl⟩:=hel2 i y hy
   obtain ⟨c,e1,e2,e3,-⟩:=hX i hi
   exact ⟨c,e1,e2,e3⟩
  ·obtain ⟨i,hi,he⟩:=List.mem_iff_getElem?.1 hy |>.imp fun i hi=>hel2 i y hi
   obtain ⟨-,-,-,-,e4⟩:=hX i hi
   rw[he];exact e4
structure OpensFs (P:Program) (fs:List Field) (o:Nat) {α:Type} [Data α] (R:Rep α):Prop where
 out: ∀ {H:Type} (enc:TypeId×Value→H) (w:World) (fuel:Nat) (cs:List Value),cs.length=o+R.size→
  (∀f∈fs,∃x,DataW.trod enc P w 0 (fun _=>true) true fuel f.type ((cs.drop f.offset).take (P.cellsOf f.type))=some x)→ ∃a:α,R.rd (hp w) (cs.drop o) a∧Data.lim a
theorem j8 {P:Program} {f:Field} {o:Nat} {α:Type} [Data α] {R:Rep α} (ho:f.offset=o) (hc:P.cellsOf f.type=R.size) (h:Opens P f.type R):OpensFs P [f] o R:=by
 constructor
 intro H enc w fuel cs hl hx
 obtain ⟨x,hx⟩:=hx f (by simp)
 rw[ho,hc,List.take_of_length_le (by rw[List.length_drop];omega)] at hx
 exact h.out enc w _ _ _ hx
theorem fA {P:Program} {f:Field} {fs:List Field} {o:Nat} {α β:Type} [Data α] [Data β] {R:Rep α} {S:Rep β} (ho:f.offset=o) (hc:P.cellsOf f.type=R.size) (h:Opens P f.type R) (hs:OpensFs P fs (o+R.size) S):OpensFs P (f::fs) o (bc R S):=by
 constructor
 intro H enc w fuel cs hl hx
 have hl':cs.length=o+(R.size+S.size):=hl
 obtain ⟨b,hb,hlb⟩:=hs.out enc w fuel cs (by omega) (fun g hg=>hx g (by simp[hg]))
 obtain ⟨x,hx⟩:=hx f (by simp)
 rw[ho,hc] at hx
 obtain ⟨a,ha,hla⟩:=h.out enc w _ _ _ hx
 refine ⟨(a,b),⟨(cs.drop o).take R.size,cs.drop (o+R.size),?_,ha,hb⟩,hla,hlb⟩
 rw[←List.drop_drop,List.take_append_drop]
theorem gm {P:Program} {t:TypeId} {fs:Array Field} {α:Type} [Data α] {R:Rep α} (h:P.underlying t=some (.struct fs)) (hc:P.cellsOf t=R.size) (hf:OpensFs P fs.toList 0 R):Opens P t R:=by
 constructor
 intro H enc w fuel cs x hx
 obtain ⟨xs,n,-,-,hl,hn,hel⟩:=DataW.trod_struct h hx
 have:=hf.out enc w n cs (by omega) (fun f hm=>by
  obtain ⟨i,hi,rfl⟩:=List.getElem_of_mem hm
  have h1:fs[i]? =some fs.toList[i]:=by simp
  exact ⟨_,(hel i _ h1).trans (List.getElem?_eq_getElem (by simp at hi;omega))⟩)
 simpa using this
theorem St.below {w0 w:World} {cs:List Ch} (h:St (hp w0) w0 w cs):Below w0.heap.size w0 w:=by
 obtain ⟨⟨h1,h2,h3,h4⟩,h5,-⟩:=h
 refine ⟨h1,h2,h3,h4,fun b hb=>?_⟩
 have e:w0.heap[b]? =some w0.heap[b]:=Array.getElem?_eq_getElem hb
 rw[e];exact h5 b _ e
end D
namespace D
open Go.RowKit
theorem bZ {n:Int} (h1: -9223372036854775808≤n) (h2:n≤9223372036854775807):IntKind.i64.wrap n=n:=by
 simp only[IntKind.wrap,IntKind.bits,IntKind.signed,Bool.true_and]
 split <;> rename_i h <;> simp at h <;> omega
theorem aa {i:Nat} (h:i<9223372036854775807):IntKind.i64.wrap ((i:Int)+1)=((i+1:Nat):Int):=by
 rw[bZ (by omega) (by omega)];rfl
theorem aq {α:Type} {xs:List α} {i:Nat} (h:i<xs.length):aw xs (i:Int)=some (xs[i]):=by
 unfold aw
 rw[if_pos (Int.natCast_nonneg _)]
 simp[h]
theorem bA {i n:Nat} (h:i<n):decide ((i:Int)<(n:Int))=true:=by simp[h]
theorem bh {n:Nat} :decide ((n:Int)<(n:Int))=false:=by simp
theorem na (k:Nat) (h:k≤9223372036854775807):k<aB:=by unfold aB;omega
theorem xS {α:Type} {b n:Nat} {z:α} (h:n*b≤140737488355328):mkI b (n:Int) z=some (List.replicate n z):=by
 unfold mkI
 rw[if_pos ⟨Int.natCast_nonneg _,by simpa using h⟩];simp
theorem CW {R S:Type} {f:S→Option (Out R S)} (inv:Nat→S) (N:Nat) (h: ∀i,i<N→f (inv i)=some (.nxt (inv (i+1)))): ∀(m i k:Nat),i+m=N→ai f (k+m) (inv i)=ai f k (inv N)
 | 0,i,k,e=>by rw[show i=N by omega];rfl
 | m+1,i,k,e=>by
  rw[←Nat.add_assoc,ai,h i (by omega)]
  exact CW inv N h m (i+1) k (by omega)
theorem CX {R S:Type} {f:S→Option (Out R S)} (inv:Nat→S) (N:Nat) {s:S} (h: ∀i,i<N→f (inv i)=some (.nxt (inv (i+1)))) (he:f (inv N)=some (.brk s)) (hN:N<aB):ai f aB (inv 0)=some (.brk s):=by
 have e:aB=(aB - N - 1)+1+N:=by omega
 rw[e,CW inv N h N 0 _ (by omega),ai,he]
theorem toL {R α:Type} {f:List α×Int→Option (Out R (List α×Int))} {z:α} (xs:List α) (hN:xs.length≤9223372036854775807)
  (hstep: ∀ys i (h:i<xs.length),ys.length=xs.length→f (ys,(i:Int))=some (.nxt (ys.set i xs[i],((i+1:Nat):Int)))) (hend: ∀ys,ys.length=xs.length→f (ys,(xs.length:Int))=some (.brk (ys,(xs.length:Int)))) :
  ai f aB (List.replicate xs.length z,0)=some (.brk (xs,(xs.length:Int))):=by
 have h0:(List.replicate xs.length z,(0:Int))=(fun i:Nat=>(xs.take i++(List.replicate xs.length z).drop i,(i:Int))) 0:=by simp
 rw[h0]
 refine CX (fun i:Nat=>(xs.take i++(List.replicate xs.length z).drop i,(i:Int))) xs.length (fun i hi=>?_) ?_ (na _ hN)
 ·have hl:(xs.take i++(List.replicate xs.length z).drop i).length=xs.length:=by
   rw[List.length_append,List.length_take,List.length_drop,List.length_replicate];omega
  rw[hstep _ i hi hl]
  congr 3
  have ht:(xs.take i).length=i:=by rw[List.length_take];omega
  rw[List.set_append_right _ _ (by omega),ht,Nat.sub_self,List.drop_eq_getElem_cons (by rw[List.length_replicate];exact hi),List.set_cons_zero,List.take_succ_eq_append_getElem hi,List.append_assoc]
  rfl
 ·have:=hend xs rfl
  rw[List.take_of_length_le (Nat.le_refl _),List.drop_of_length_le (by rw[List.length_replicate];exact Nat.le_refl _),List.append_nil]
  exact this
def Oy {α:Type} [Data α] (m:α→Int→Option Int):Prop:= ∀x l,Data.lim x→0≤l→l≤1048576→ ∃r,m x l=some r∧(r<0∨(0≤r∧r≤l∧Data.sm x))
def Io {α:Type} [Data α] (m:α→Option α):Prop:= ∀x,Data.sm x→m x=some x
def Ip {α:Type} [Data α] [DecidableEq α] (m:α→α→Option Bool):Prop:= ∀x y,Data.sm x→Data.sm y→m x y=some (decide (x=y))
theorem Xb {α:Type} [Data α] {f:Int×Int→Option (Out Int (Int×Int))} (xs:List α)
  (hstep: ∀i (h:i<xs.length) l,0≤l→l≤1048576→ ∃r,f (l,(i:Int))=some (if r<0 then .ret (-1) else .nxt (r,((i+1:Nat):Int)))∧(r<0∨(0≤r∧r≤l∧Data.sm xs[i])))
  (hend: ∀l,f (l,(xs.length:Int))=some (.brk (l,(xs.length:Int)))): ∀(m i k:Nat) (l:Int),i+m=xs.length→m<k→0≤l→l≤1048576→
   ai f k (l,(i:Int))=some (.ret (-1))∨ ∃r,ai f k (l,(i:Int))=some (.brk (r,(xs.length:Int)))∧0≤r∧r≤l∧ ∀j (h:j<xs.length),i≤j→Data.sm xs[j]
 | 0,i,k,l,e,hk,h0,h1=>by
  obtain ⟨k,rfl⟩: ∃q,k=q+1:=⟨k - 1,by omega⟩
  obtain rfl:i=xs.length:=by omega
  exact .inr ⟨l,by rw[ai,hend],h0,Int.le_refl _,fun j hj hi=>by omega⟩
 | m+1,i,k,l,e,hk,h0,h1=>by
  obtain ⟨k,rfl⟩: ∃q,k=q+1:=⟨k - 1,by omega⟩
  obtain ⟨r,e1,e2⟩:=hstep i (by omega) l h0 h1
  rw[ai,e1]
  rcases e2 with e2 | ⟨e2,e3,e4⟩
  ·rw[if_pos e2];exact .inl rfl
  ·rw[if_neg (by omega)]
   rcases Xb xs hstep hend m (i+1) k r (by omega) (by omega) e2 (by omega) with h | ⟨q,g1,g2,g3,g4⟩
   ·exact .inl h
   ·refine .inr ⟨q,g1,g2,by omega,fun j hj hi=>?_⟩
    by_cases hji:j=i
    ·subst hji;exact e4
    ·exact g4 j hj (by omega)
theorem szL {α:Type} [Data α] {f:Int×Int→Option (Out Int (Int×Int))} (xs:List α) {l:Int} (hN:xs.length≤9223372036854775807)
  (hstep: ∀i (h:i<xs.length) l,0≤l→l≤1048576→ ∃r,f (l,(i:Int))=some (if r<0 then .ret (-1) else .nxt (r,((i+1:Nat):Int)))∧(r<0∨(0≤r∧r≤l∧Data.sm xs[i])))
  (hend: ∀l,f (l,(xs.length:Int))=some (.brk (l,(xs.length:Int)))) (h0:0≤l) (h1:l≤1048576) :
  ∃r,(if decide (IntKind.i64.wrap (l - (xs.length:Int))<0) then (some (-1)) else (az (ai f aB (IntKind.i64.wrap (l - (xs.length:Int)),0)) (fun r=>some r) (fun s4=>some s4.1)))=some r∧(r<0∨(0≤r∧r≤l∧Data.sm xs)):=by
 rw[bZ (by omega) (by omega)]
 by_cases h:l - (xs.length:Int)<0
 ·exact ⟨-1,by rw[if_pos (decide_eq_true h)],.inl (by decide)⟩
 ·rw[if_neg (by simpa using h)]
  rcases Xb xs hstep hend xs.length 0 aB (l - xs.length) (by omega) (na _ hN) (by omega) (by omega) with e | ⟨r,e,g1,g2,g3⟩
  ·exact ⟨-1,by rw[show ((0:Int))=((0:Nat):Int) from rfl,e];rfl,.inl (by decide)⟩
  ·refine ⟨r,by rw[show ((0:Int))=((0:Nat):Int) from rfl,e];rfl,.inr ⟨g1,by omega,by omega,fun x hx=>?_⟩⟩
   obtain ⟨j,hj,rfl⟩:=List.getElem_of_mem hx
   exact g3 j hj (Nat.zero_le _)
theorem szF {α:Type} [Data α] (xs:List α) {l:Int} (hN:xs.length≤9223372036854775807) (hf: ∀x:α,Data.sm x) (h0:0≤l) (h1:l≤1048576) :
  ∃r,(if decide (IntKind.i64.wrap (l - (xs.length:Int))<0) then (some (-1)) else (some (IntKind.i64.wrap (l - (xs.length:Int)))))=some r∧(r<0∨(0≤r∧r≤l∧Data.sm xs)):=by
 rw[bZ (by omega) (by omega)]
 by_cases h:l - (xs.length:Int)<0
 ·exact ⟨-1,by rw[if_pos (decide_eq_true h)],.inl (by decide)⟩
 ·exact ⟨_,by rw[if_neg (by simpa using h)],.inr ⟨by omega,by omega,by omega,fun x _=>hf x⟩⟩
theorem Xc {α:Type} [DecidableEq α] {f:Int→Option (Out Bool Int)} (xs ys:List α) (hl:xs.length=ys.length)
  (hstep: ∀i (h:i<xs.length) (h':i<ys.length),f (i:Int)=some (if xs[i] =ys[i] then .nxt ((i+1:Nat):Int) else .ret false)) (hend:f (xs.length:Int)=some (.brk (xs.length:Int))): ∀(m i k:Nat),i+m=xs.length→m<k→
   ai f k (i:Int)=some (if xs.drop i=ys.drop i then .brk (xs.length:Int) else .ret false)
 | 0,i,k,e,hk=>by
  obtain ⟨k,rfl⟩: ∃q,k=q+1:=⟨k - 1,by omega⟩
  obtain rfl:i=xs.length:=by omega
  rw[ai,hend,List.drop_of_length_le (Nat.le_refl _),List.drop_of_length_le (by omega),if_pos rfl]
 | m+1,i,k,e,hk=>by
  obtain ⟨k,rfl⟩: ∃q,k=q+1:=⟨k - 1,by omega⟩
  have hi:i<xs.length:=by omega
  have hi':i<ys.length:=by omega
  have d1:=List.drop_eq_getElem_cons hi
  have d2:=List.drop_eq_getElem_cons hi'
  rw[ai,hstep i hi hi',d1,d2]
  by_cases h:xs[i] =ys[i]
  ·rw[if_pos h]
   simp only
   rw[Xc xs ys hl hstep hend m (i+1) k (by omega) (by omega)]
   simp only[List.cons.injEq,h,true_and]
  ·rw[if_neg h]
   simp only[List.cons.injEq,h,false_and,if_false]
theorem eqL {α:Type} [DecidableEq α] {f:Int→Option (Out Bool Int)} (xs ys:List α) (hN:xs.length≤9223372036854775807)
  (hstep: ∀i (h:i<xs.length) (h':i<ys.length),f (i:Int)=some (if xs[i] =ys[i] then .nxt ((i+1:Nat):Int) else .ret false)) (hend:f (xs.length:Int)=some (.brk (xs.length:Int))) :
  (if (xs.length:Int) !=(ys.length:Int) then (some false) else (az (ai f aB 0) (fun r=>some r) (fun s4=>some true)))=some (decide (xs=ys)):=by
 by_cases hl:xs.length=ys.length
 ·rw[if_neg (by rw[hl];simp),show ((0:Int))=((0:Nat):Int) from rfl,Xc xs ys hl hstep hend xs.length 0 aB (by omega) (na _ hN)]
  by_cases h:xs=ys
  ·subst h;simp[az]
  ·simp[az,h]
 ·have:xs≠ys:=fun e=>hl (by rw[e])
  rw[if_pos (by simp;omega)];simp[this]
theorem oc {α:Type} {c d:Prop} [Decidable c] [Decidable d] {a b:α} (h:c↔d):(if c then some a else some b)=some (if d then a else b):=by
 by_cases k:c
 ·rw[if_pos k,if_pos (h.1 k)]
 ·rw[if_neg k,if_neg (fun e=>k (h.2 e))]
theorem uz {α:Type} {c d:Prop} [Decidable c] [Decidable d] {a b:α} (h:c↔ ¬d):(if c then some b else some a)=some (if d then a else b):=by
 by_cases k:d
 ·rw[if_neg (fun e=>h.1 e k),if_pos k]
 ·rw[if_pos (h.2 k),if_neg k]
theorem Ut {f:Int→Option (Out Int Int)} (xs ys:List Int)
  (hstep: ∀i (h:i<xs.length) (h':i<ys.length),f (i:Int)=some (if xs[i] < ys[i] then .ret (-1) else if xs[i] > ys[i] then .ret 1 else .nxt ((i+1:Nat):Int))) (hend: ∀i,xs.length≤i∨ys.length≤i→f (i:Int)=some (.brk (i:Int))): ∀(m i k:Nat),i+m=xs.length→m<k→
   (∃r,ai f k (i:Int)=some (.ret r)∧r≠0∧xs≠ys)∨ ∃s,ai f k (i:Int)=some (.brk s)∧(xs.length=ys.length→xs.drop i=ys.drop i)
 | 0,i,k,e,hk=>by
  obtain ⟨k,rfl⟩: ∃q,k=q+1:=⟨k - 1,by omega⟩
  exact .inr ⟨_,by rw[ai,hend i (.inl (by omega))],fun h=>by rw[List.drop_of_length_le (by omega),List.drop_of_length_le (by omega)]⟩
 | m+1,i,k,e,hk=>by
  obtain ⟨k,rfl⟩: ∃q,k=q+1:=⟨k - 1,by omega⟩
  have hi:i<xs.length:=by omega
  by_cases hi':i<ys.length
  ·have hne: ∀h:xs[i] ≠ys[i],xs≠ys:=fun h e=>h (by subst e;rfl)
   rw[ai,hstep i hi hi']
   by_cases h1:xs[i] < ys[i]
   ·rw[if_pos h1];exact .inl ⟨-1,rfl,by decide,hne (by omega)⟩
   ·rw[if_neg h1]
    by_cases h2:xs[i] > ys[i]
    ·rw[if_pos h2];exact .inl ⟨1,rfl,by decide,hne (by omega)⟩
    ·rw[if_neg h2]
     rcases Ut xs ys hstep hend m (i+1) k (by omega) (by omega) with h | ⟨s,g1,g2⟩
     ·exact .inl h
     ·refine .inr ⟨s,g1,fun hl=>?_⟩
      have h3:xs[i] =ys[i]:=by omega
      rw[List.drop_eq_getElem_cons hi,List.drop_eq_getElem_cons hi',g2 hl,h3]
  ·exact .inr ⟨_,by rw[ai,hend i (.inr (by omega))],fun h=>by omega⟩
instance:LawfulBEq ByteArray where
 eq_of_beq {a b} h:=ByteArray.ext (eq_of_beq (show (a.data==b.data)=true from h))
 rfl {a}:=beq_self_eq_true a.data
theorem eQ {α β:Type} (p:α×β):(p.1,p.2)=p:=rfl
theorem aJ {α:Type} [Data α] {xs:List α} (h:Data.sm xs):xs.length≤1048576∧ ∀x,x∈xs→Data.sm x:=h
theorem nc {α:Type} [Data α] {xs:List α} (h:Data.lim xs):xs.length≤9223372036854775807∧ ∀x,x∈xs→Data.lim x:=h
end D
set_option synthInstance.maxSize 20000
set_option synthInstance.maxHeartbeats 2000000
namespace D
open Go.RowKit
theorem Iq:Oy pQ:=fun xs l hl h0 h1=>szF xs (nc hl).1 (fun _=>⟨trivial,trivial,trivial,trivial⟩) h0 h1
theorem Oz:Oy qH:=by
 intro x l hl h0 h1
 unfold qH
 try simp only[eQ]
 obtain ⟨r1,e1,k1⟩:=Iq x l hl (by omega) (by omega)
 rw[e1];simp only[Option.bind_some]
 rcases k1 with k1 | ⟨k1,j1,s1⟩
 ·exact ⟨-1,by rw[if_pos (decide_eq_true k1)],.inl (by decide)⟩
 rw[if_neg (by simpa using k1)]
 exact ⟨_,rfl,.inr ⟨by omega,by omega,s1⟩⟩
theorem K7:Io oB:=by
 intro x hx
 unfold oB
 simp only[eQ,Option.bind_some]
theorem Ir:Io mJ:=by
 intro xs hx
 have hn:=(aJ hx).1
 unfold mJ
 rw[xS (by omega)];simp only[Option.bind_some]
 rw[toL (f:=jc xs) xs (by omega) (fun ys i h hy=>by simp only[jc,bA h,if_true,aq h,aq (show i<ys.length by omega),Option.bind_some,eQ,K7 xs[i] ((aJ hx).2 _ (List.getElem_mem h)),aa (show i<9223372036854775807 by omega),Int.toNat_natCast]) (fun ys hy=>by simp only[jc,bh];rfl)]
 rfl
theorem OA:Io lG:=by
 intro x hx
 unfold lG
 simp only[eQ,Option.bind_some,Ir x hx]
theorem K8:Ip oC:=by
 intro x y hx hy
 unfold oC
 try simp only[eQ,Option.bind_some]
 repeat' split
 all_goals simp_all[Prod.ext_iff]
theorem Is:Ip pR:=fun xs ys hx hy=>eqL (f:=jd xs ys) xs ys (by have:=(aJ hx).1;omega) (fun i h h'=>by
 simp only[jd,bA h,if_true,aq h,aq h',Option.bind_some,eQ,K8 xs[i] ys[i] ((aJ hx).2 _ (List.getElem_mem h)) ((aJ hy).2 _ (List.getElem_mem h')),aa (show i<9223372036854775807 by have:=(aJ hx).1;omega)]
 first | exact oc (by simp) | exact uz (by simp) | exact oc (by simp[Prod.ext_iff])) (by simp only[jd,bh];rfl)
theorem OB:Ip qI:=by
 intro x y hx hy
 unfold qI
 try simp only[eQ,Option.bind_some,Is x y hx hy]
 repeat' split
 all_goals simp_all[Prod.ext_iff]
theorem OC:Oy ug:=fun xs l hl h0 h1=>szF xs (nc hl).1 (fun _=>trivial) h0 h1
theorem K9:Oy rM:=fun xs l hl h0 h1=>szF xs (nc hl).1 (fun _=>⟨trivial,trivial,trivial,trivial⟩) h0 h1
theorem La:Oy oD:=by
 intro x l hl h0 h1
 unfold oD
 try simp only[eQ]
 obtain ⟨r1,e1,k1⟩:=OC x.1 l hl.1 (by omega) (by omega)
 rw[e1];simp only[Option.bind_some]
 rcases k1 with k1 | ⟨k1,j1,s1⟩
 ·exact ⟨-1,by rw[if_pos (decide_eq_true k1)],.inl (by decide)⟩
 rw[if_neg (by simpa using k1)]
 obtain ⟨r2,e2,k2⟩:=K9 x.2 r1 hl.2 (by omega) (by omega)
 rw[e2];simp only[Option.bind_some]
 rcases k2 with k2 | ⟨k2,j2,s2⟩
 ·exact ⟨-1,by rw[if_pos (decide_eq_true k2)],.inl (by decide)⟩
 rw[if_neg (by simpa using k2)]
 exact ⟨_,rfl,.inr ⟨by omega,by omega,⟨s1,s2⟩⟩⟩
theorem Lb:Oy rN:=fun xs l hl h0 h1=>szF xs (nc hl).1 (fun _=>⟨trivial,trivial⟩) h0 h1
theorem Lc:Oy rO:=fun xs l hl h0 h1=>szF xs (nc hl).1 (fun _=>⟨trivial,trivial⟩) h0 h1
theorem OD:Oy qJ:=by
 intro x l hl h0 h1
 unfold qJ
 try simp only[eQ]
 obtain ⟨r1,e1,k1⟩:=Lc x.2 l hl.2 (by omega) (by omega)
 rw[e1];simp only[Option.bind_some]
 rcases k1 with k1 | ⟨k1,j1,s1⟩
 ·exact ⟨-1,by rw[if_pos (decide_eq_true k1)],.inl (by decide)⟩
 rw[if_neg (by simpa using k1)]
 exact ⟨_,rfl,.inr ⟨by omega,by omega,⟨trivial,s1⟩⟩⟩
theorem Ld:Oy rP:=fun xs l hl h0 h1=>szL (f:=ke xs) xs (nc hl).1 (fun i h l k0 k1=>by
 obtain ⟨r,e,hr⟩:=OD xs[i] l ((nc hl).2 _ (List.getElem_mem h)) k0 k1
 refine ⟨r,?_,hr⟩
 simp only[ke,bA h,if_true,aq h,Option.bind_some,eQ,e,aa (show i<9223372036854775807 by have:=(nc hl).1;omega)]
 exact oc (by simp)) (fun l=>by simp only[ke,bh];rfl) h0 h1
theorem OE:Io qM:=by
 intro xs hx
 have hn:=(aJ hx).1
 unfold qM
 rw[xS (by omega)];simp only[Option.bind_some]
 rw[toL (f:=lr xs) xs (by omega) (fun ys i h hy=>by simp only[lr,bA h,if_true,aq h,aq (show i<ys.length by omega),Option.bind_some,eQ,aa (show i<9223372036854775807 by omega),Int.toNat_natCast]) (fun ys hy=>by simp only[lr,bh];rfl)]
 rfl
theorem OF:Io qN:=by
 intro x hx
 unfold qN
 simp only[eQ,Option.bind_some]
theorem Le:Io oJ:=by
 intro xs hx
 have hn:=(aJ hx).1
 unfold oJ
 rw[xS (by omega)];simp only[Option.bind_some]
 rw[toL (f:=kp xs) xs (by omega) (fun ys i h hy=>by simp only[kp,bA h,if_true,aq h,aq (show i<ys.length by omega),Option.bind_some,eQ,OF xs[i] ((aJ hx).2 _ (List.getElem_mem h)),aa (show i<9223372036854775807 by omega),Int.toNat_natCast]) (fun ys hy=>by simp only[kp,bh];rfl)]
 rfl
theorem Lf:Io jW:=by
 intro x hx
 unfold jW
 simp only[eQ,Option.bind_some,OE x.1 hx.1,Le x.2 hx.2]
theorem OG:Io qO:=by
 intro x hx
 unfold qO
 simp only[eQ,Option.bind_some]
theorem Lg:Io jX:=by
 intro xs hx
 have hn:=(aJ hx).1
 unfold jX
 rw[xS (by omega)];simp only[Option.bind_some]
 rw[toL (f:=kq xs) xs (by omega) (fun ys i h hy=>by simp only[kq,bA h,if_true,aq h,aq (show i<ys.length by omega),Option.bind_some,eQ,OG xs[i] ((aJ hx).2 _ (List.getElem_mem h)),aa (show i<9223372036854775807 by omega),Int.toNat_natCast]) (fun ys hy=>by simp only[kq,bh];rfl)]
 rfl
theorem OH:Io qP:=by
 intro x hx
 unfold qP
 simp only[eQ,Option.bind_some]
theorem Lh:Io oK:=by
 intro xs hx
 have hn:=(aJ hx).1
 unfold oK
 rw[xS (by omega)];simp only[Option.bind_some]
 rw[toL (f:=kt xs) xs (by omega) (fun ys i h hy=>by simp only[kt,bA h,if_true,aq h,aq (show i<ys.length by omega),Option.bind_some,eQ,OH xs[i] ((aJ hx).2 _ (List.getElem_mem h)),aa (show i<9223372036854775807 by omega),Int.toNat_natCast]) (fun ys hy=>by simp only[kt,bh];rfl)]
 rfl
theorem OI:Io qQ:=by
 intro x hx
 unfold qQ
 simp only[eQ,Option.bind_some,Lh x.2 hx.2]
theorem Li:Io jY:=by
 intro xs hx
 have hn:=(aJ hx).1
 unfold jY
 rw[xS (by omega)];simp only[Option.bind_some]
 rw[toL (f:=ku xs) xs (by omega) (fun ys i h hy=>by simp only[ku,bA h,if_true,aq h,aq (show i<ys.length by omega),Option.bind_some,eQ,OI xs[i] ((aJ hx).2 _ (List.getElem_mem h)),aa (show i<9223372036854775807 by omega),Int.toNat_natCast]) (fun ys hy=>by simp only[ku,bh];rfl)]
 rfl
theorem OJ:Ip uj:=fun xs ys hx hy=>eqL (f:=lz xs ys) xs ys (by have:=(aJ hx).1;omega) (fun i h h'=>by
 simp only[lz,bA h,if_true,aq h,aq h',Option.bind_some,eQ,aa (show i<9223372036854775807 by have:=(aJ hx).1;omega)]
 first | exact oc (by simp) | exact uz (by simp) | exact oc (by simp[Prod.ext_iff])) (by simp only[lz,bh];rfl)
theorem OK:Ip qV:=by
 intro x y hx hy
 unfold qV
 try simp only[eQ,Option.bind_some]
 repeat' split
 all_goals simp_all[Prod.ext_iff]
theorem Lj:Ip rT:=fun xs ys hx hy=>eqL (f:=kz xs ys) xs ys (by have:=(aJ hx).1;omega) (fun i h h'=>by
 simp only[kz,bA h,if_true,aq h,aq h',Option.bind_some,eQ,OK xs[i] ys[i] ((aJ hx).2 _ (List.getElem_mem h)) ((aJ hy).2 _ (List.getElem_mem h')),aa (show i<9223372036854775807 by have:=(aJ hx).1;omega)]
 first | exact oc (by simp) | exact uz (by simp) | exact oc (by simp[Prod.ext_iff])) (by simp only[kz,bh];rfl)
theorem Lk:Ip oP:=by
 intro x y hx hy
 unfold oP
 try simp only[eQ,Option.bind_some,OJ x.1 y.1 hx.1 hy.1,Lj x.2 y.2 hx.2 hy.2]
 repeat' split
 all_goals simp_all[Prod.ext_iff]
theorem OL:Ip qW:=by
 intro x y hx hy
 unfold qW
 try simp only[eQ,Option.bind_some]
 repeat' split
 all_goals simp_all[Prod.ext_iff]
theorem Ll:Ip rU:=fun xs ys hx hy=>eqL (f:=kA xs ys) xs ys (by have:=(aJ hx).1;omega) (fun i h h'=>by
 simp only[kA,bA h,if_true,aq h,aq h',Option.bind_some,eQ,OL xs[i] ys[i] ((aJ hx).2 _ (List.getElem_mem h)) ((aJ hy).2 _ (List.getElem_mem h')),aa (show i<9223372036854775807 by have:=(aJ hx).1;omega)]
 first | exact oc (by simp) | exact uz (by simp) | exact oc (by simp[Prod.ext_iff])) (by simp only[kA,bh];rfl)
theorem OM:Ip qX:=by
 intro x y hx hy
 unfold qX
 try simp only[eQ,Option.bind_some]
 repeat' split
 all_goals simp_all[Prod.ext_iff]
theorem Lm:Ip rV:=fun xs ys hx hy=>eqL (f:=kB xs ys) xs ys (by have:=(aJ hx).1;omega) (fun i h h'=>by
 simp only[kB,bA h,if_true,aq h,aq h',Option.bind_some,eQ,OM xs[i] ys[i] ((aJ hx).2 _ (List.getElem_mem h)) ((aJ hy).2 _ (List.getElem_mem h')),aa (show i<9223372036854775807 by have:=(aJ hx).1;omega)]
 first | exact oc (by simp) | exact uz (by simp) | exact oc (by simp[Prod.ext_iff])) (by simp only[kB,bh];rfl)
theorem ON:Ip qY:=by
 intro x y hx hy
 unfold qY
 try simp only[eQ,Option.bind_some,Lm x.2 y.2 hx.2 hy.2]
 repeat' split
 all_goals simp_all[Prod.ext_iff]
theorem Ln:Ip rW:=fun xs ys hx hy=>eqL (f:=kC xs ys) xs ys (by have:=(aJ hx).1;omega) (fun i h h'=>by
 simp only[kC,bA h,if_true,aq h,aq h',Option.bind_some,eQ,ON xs[i] ys[i] ((aJ hx).2 _ (List.getElem_mem h)) ((aJ hy).2 _ (List.getElem_mem h')),aa (show i<9223372036854775807 by have:=(aJ hx).1;omega)]
 first | exact oc (by simp) | exact uz (by simp) | exact oc (by simp[Prod.ext_iff])) (by simp only[kC,bh];rfl)
end D
namespace D
open Go.RowKit
theorem bF {R S:Type} {f:S→Option (Out R S)} (Inv:Nat→S→Prop) (Q:Out R S→Prop) (N:Nat)
  (h: ∀i s,i≤N→Inv i s→(i<N∧ ∃s',f s=some (.nxt s')∧Inv (i+1) s')∨ ∃o,f s=some o∧(∀s',o≠ .nxt s')∧Q o) {s:S} (h0:Inv 0 s) (hN:N<aB): ∃o,ai f aB s=some o∧Q o:=by
 have key: ∀(k i:Nat) (s:S),i≤N→N<i+k→Inv i s→ ∃o,ai f k s=some o∧Q o:=by
  intro k
  induction k with
  | zero=>intro i s h1 h2;omega
  | succ k ih =>
   intro i s h1 h2 hI
   rcases h i s h1 hI with ⟨hi,s',e,hI'⟩ | ⟨o,e,hn,hq⟩
   ·obtain ⟨o,e',hq⟩:=ih (i+1) s' (by omega) (by omega) hI'
    exact ⟨o,by rw[ai,e];exact e',hq⟩
   ·refine ⟨o,?_,hq⟩
    rw[ai,e]
    cases o with
    | nxt s'=>exact absurd rfl (hn s')
    | brk s'=>rfl
    | ret r=>rfl
 exact key aB 0 s (by omega) (by omega) h0
theorem cR {R S:Type} {f:S→Option (Out R S)} (Inv:Nat→S→Prop) (N:Nat) (h: ∀i s,i<N→Inv i s→ ∃s',f s=some (.nxt s')∧Inv (i+1) s') (he: ∀s,Inv N s→f s=some (.brk s)) {s:S} (h0:Inv 0 s) (hN:N<aB): ∃s',ai f aB s=some (.brk s')∧Inv N s':=by
 obtain ⟨o,e,s',rfl,h⟩:=bF (f:=f) Inv (fun o=> ∃s',o= .brk s'∧Inv N s') N (fun i s hi hI=>by
  by_cases h1:i<N
  ·exact .inl ⟨h1,h i s h1 hI⟩
  ·obtain rfl:i=N:=by omega
   exact .inr ⟨_,he s hI,(fun s' e=>by cases e),s,rfl,hI⟩) h0 hN
 exact ⟨s',e,h⟩
theorem ax {R S:Type} {f:S→Option (Out R S)} (st:Nat→S) (N:Nat) (h: ∀i,i<N→f (st i)=some (.nxt (st (i+1)))) (he:f (st N)=some (.brk (st N))) (hN:N<aB):ai f aB (st 0)=some (.brk (st N)):=CX st N h he hN
theorem gp {k:Nat} (h:k≤9223372036854775807):k<aB:=na k h
theorem o6 {i:Nat} (h:i≤9223372036854775807):IntKind.i64.wrap (i:Int)=(i:Int):=bZ (by omega) (by omega)
theorem ju {i:Nat} (h:i≤9223372036854775807):IntKind.i64.wrap ((i:Int) - 1)=(i:Int) - 1:=bZ (by omega) (by omega)
theorem au {α:Type} {b:Nat} {xs ys:List α} (h:(xs.length+ys.length)*b≤140737488355328):da b xs ys=some (xs++ys):=by unfold da;rw[if_pos h]
theorem aK {R S T:Type} {x:Option (Out R S)} {r:R} {kr:R→Option T} {k:S→Option T} (h:x=some (.ret r)):az x kr k=kr r:=by rw[h];rfl
theorem ae {R S T:Type} {x:Option (Out R S)} {s:S} {kr:R→Option T} {k:S→Option T} (h:x=some (.brk s)):az x kr k=k s:=by rw[h];rfl
def nth {α:Type} [Inhabited α] (xs:List α) (i:Int):α:=xs.getD i.toNat default
section
variable {α:Type} [Inhabited α] {xs ys:List α}
theorem aj {i:Int} (h0:0≤i) (h1:i<xs.length):aw xs i=some (nth xs i):=by
 unfold aw nth
 rw[if_pos h0]
 have:i.toNat<xs.length:=by omega
 simp[List.getD_eq_getElem?_getD,this]
theorem bq {i:Nat} (h:i<xs.length):nth xs (i:Int)=xs[i]:=by simp[nth,List.getD_eq_getElem?_getD,h]
theorem aX {i:Int} (h0:0≤i) (h1:i<xs.length):nth xs i∈xs:=by
 have:i.toNat<xs.length:=by omega
 have e:nth xs i=xs[i.toNat]:=by simp[nth,List.getD_eq_getElem?_getD,this]
 rw[e];exact List.getElem_mem this
theorem eR {i:Int} (h0:0≤i) (h1:i<xs.length):nth (xs++ys) i=nth xs i:=by
 have:i.toNat<xs.length:=by omega
 simp[nth,List.getD_eq_getElem?_getD,List.getElem?_append_left this]
theorem A0 {x:α} (h:x∈xs): ∃i:Nat,i<xs.length∧nth xs (i:Int)=x:=by
 obtain ⟨i,hi,rfl⟩:=List.getElem_of_mem h
 exact ⟨i,hi,bq hi⟩
theorem nf {i:Int} {x:α} (h0:0≤i) (h1:i<xs.length):nth (xs.set i.toNat x) i=x:=by
 have:i.toNat<xs.length:=by omega
 simp[nth,List.getD_eq_getElem?_getD,this]
theorem od {i j:Int} {x:α} (h0:0≤i) (hj:0≤j) (h:i≠j):nth (xs.set i.toNat x) j=nth xs j:=by
 have:i.toNat≠j.toNat:=by omega
 simp[nth,List.getD_eq_getElem?_getD,List.getElem?_set_ne this]
theorem uA (h:xs.length=ys.length) (k: ∀i:Nat,i<xs.length→nth xs (i:Int)=nth ys (i:Int)):xs=ys:=by
 refine List.ext_getElem h fun i h1 h2=>?_
 have:=k i h1
 rwa [bq h1,bq h2] at this
end
section
variable {κ:Type} [DecidableEq κ]
def nbL (l:List κ):Option κ→List κ
 | none=>l
 | some x=>if x∈l then l else l++ [x]
def nbI (l:List κ):Option κ→Int
 | none=> -1
 | some x=>(l.idxOf x:Int)
def nbS (l:List κ) (os:List (Option κ)):List κ:=os.foldl nbL l
def nbR (l:List κ):List (Option κ)→List Int
 | [] =>[]
 | o::os=>nbI l o::nbR (nbL l o) os
theorem tw (l:List κ) (os:List (Option κ)) (o:Option κ):nbS l (os++ [o])=nbL (nbS l os) o:=by simp[nbS]
theorem q8: ∀(l:List κ) (os:List (Option κ)) (o:Option κ),nbR l (os++ [o])=nbR l os++ [nbI (nbS l os) o]
 | l,[],o=>rfl
 | l,p::os,o=>by
  show nbI l p::nbR (nbL l p) (os++ [o])=nbI l p::nbR (nbL l p) os++ [nbI (nbS (nbL l p) os) o]
  rw[q8 (nbL l p) os o];rfl
theorem dH: ∀(l:List κ) (os:List (Option κ)),(nbR l os).length=os.length
 | l,[] =>rfl
 | l,o::os=>by show (nbR (nbL l o) os).length+1=_;rw[dH];rfl
theorem Iu (l : List κ) (o : Option κ) : l <+: nbL l o := by
  cases o with
  | none => exact List.prefix_refl l
  | some x => unfold nbL; simp only; split
              · exact List.prefix_refl l
              · exact List.prefix_append l [x]
theorem j9: ∀(l:List κ) (os:List (Option κ)),l <+:nbS l os
 | l,[] =>List.prefix_refl l
 | l,o::os=>(Iu l o).trans (j9 (nbL l o) os)
theorem Lo {l : List κ} {o : Option κ} (h : l.Nodup) : (nbL l o).Nodup := by
  cases o with
  | none => exact h
  | some x => unfold nbL; simp only; split
              · exact h
              · rename_i hx; exact List.nodup_append.2 ⟨h, by simp, by rintro a ha b hb rfl; simp at hb; exact hx (hb ▸ ha)⟩
theorem qm: ∀ {l:List κ} {os:List (Option κ)},l.Nodup→(nbS l os).Nodup
 | l,[],h=>h
 | l,o::os,h=>qm (l:=nbL l o) (os:=os) (Lo h)
theorem Lp {l : List κ} {o : Option κ} {x : κ} : x ∈ nbL l o ↔ x ∈ l ∨ o = some x := by
  cases o with
  | none => simp [nbL]
  | some y => unfold nbL; simp only; split
              · rename_i h; constructor
                · exact .inl
                · rintro (h' | h')
                  · exact h'
                  · simp at h'; exact h' ▸ h
              · simp; exact or_congr Iff.rfl eq_comm
theorem uB: ∀ {l:List κ} {os:List (Option κ)} {x:κ},x∈nbS l os↔x∈l∨some x∈os
 | l,[],x=>by simp[nbS]
 | l,o::os,x=>by
  show x∈nbS (nbL l o) os↔_
  rw[uB,Lp,List.mem_cons,or_assoc]
  exact or_congr Iff.rfl (or_congr eq_comm Iff.rfl)
theorem kY {l:List κ} {x:κ} (h:x∈l):nbL l (some x)=l:=by simp[nbL,h]
theorem ka {l:List κ} {x:κ} (h:x∉l):nbL l (some x)=l++ [x]:=by simp[nbL,h]
theorem oe {l:List κ} {x:κ} (h:x∉l):l.idxOf x=l.length:=List.idxOf_eq_length h
def bfS (nx:κ→List (Option κ)) (first:κ):Nat→List κ
 | 0=>[first]
 | i+1=>match (bfS nx first i)[i]? with
  | some x=>nbS (bfS nx first i) (nx x)
  | none=>bfS nx first i
def bfR (nx:κ→List (Option κ)) (first:κ):Nat→List (List Int)
 | 0=>[]
 | i+1=>bfR nx first i++(match (bfS nx first i)[i]? with
  | some x=>[nbR (bfS nx first i) (nx x)]
  | none=>[])
variable {nx:κ→List (Option κ)} {first:κ}
theorem A1 {i:Nat} (h:i<(bfS nx first i).length):bfS nx first (i+1)=nbS (bfS nx first i) (nx ((bfS nx first i)[i])):=by
 rw[bfS,List.getElem?_eq_getElem h]
theorem tx {i:Nat} (h:i<(bfS nx first i).length):bfR nx first (i+1)=bfR nx first i++ [nbR (bfS nx first i) (nx ((bfS nx first i)[i]))]:=by
 rw[bfR,List.getElem?_eq_getElem h]
theorem a6 (i:Nat):bfS nx first i <+:bfS nx first (i+1):=by
 rw[bfS]
 split
 ·exact j9 _ _
 ·exact List.prefix_refl _
theorem uC {i j:Nat} (h:i≤j):bfS nx first i <+:bfS nx first j:=by
 induction h with
 | refl=>exact List.prefix_refl _
 | step _ ih=>exact ih.trans (a6 _)
theorem mu: ∀i,(bfS nx first i).Nodup
 | 0=>by simp[bfS]
 | i+1=>by
  rw[bfS]
  split
  ·exact qm (mu i)
  ·exact mu i
theorem jv {G:κ→Prop} (h0:G first) (h: ∀x,G x→ ∀y,some y∈nx x→G y): ∀i,∀x∈bfS nx first i,G x
 | 0=>by simp[bfS];exact h0
 | i+1=>by
  rw[bfS]
  split
  ·rename_i y hy
   intro x hx
   rcases uB.1 hx with hx | hx
   ·exact jv h0 h i x hx
   ·exact h y (jv h0 h i y (List.mem_of_getElem? hy)) x hx
  ·exact jv h0 h i
theorem CY (i:Nat):(bfS nx first i)[0]? =some first:=by
 obtain ⟨t,ht⟩:=uC (nx:=nx) (first:=first) (Nat.zero_le i)
 rw[←ht];rfl
theorem iP: ∀ {i:Nat},(∀j,j<i→j<(bfS nx first j).length)→(bfR nx first i).length=i
 | 0,_=>rfl
 | i+1,h=>by rw[tx (h i (by omega)),List.length_append,iP fun j hj=>h j (by omega)];rfl
def bfE (nx:κ→List (Option κ)) (first:κ) (N:Nat):Prop:=N=(bfS nx first N).length∧ ∀i,i<N→i<(bfS nx first i).length
theorem Qg {B:Nat} (hB: ∀i,(bfS nx first i).length≤B): ∃N,N≤B∧bfE nx first N:=by
 have key: ∀m i,i+m=B→(∀j,j<i→j<(bfS nx first j).length)→ ∃N,N≤B∧bfE nx first N:=by
  intro m
  induction m with
  | zero =>
   intro i hi hj
   have h1:=hB i
   have h2:i≤(bfS nx first i).length:=by
    cases i with
    | zero=>omega
    | succ i =>
     have:=hj i (by omega)
     have hp:=(a6 (nx:=nx) (first:=first) i).length_le
     omega
   exact ⟨i,by omega,by omega,hj⟩
  | succ m ih =>
   intro i hi hj
   by_cases h:i<(bfS nx first i).length
   ·exact ih (i+1) (by omega) fun j hj'=>by
     by_cases e:j=i
     ·subst e;exact h
     ·exact hj j (by omega)
   ·have h2:i≤(bfS nx first i).length:=by
     cases i with
     | zero=>omega
     | succ i =>
      have:=hj i (by omega)
      have hp:=(a6 (nx:=nx) (first:=first) i).length_le
      omega
    exact ⟨i,by omega,by omega,hj⟩
 exact key B 0 (by omega) (by omega)
theorem OO {N M:Nat} (h:bfE nx first N) (k:bfE nx first M):N=M:=by
 rcases Nat.lt_trichotomy N M with e | e | e
 ·have:=k.2 N e;have:=h.1;omega
 ·exact e
 ·have:=h.2 M e;have:=k.1;omega
end
end D
namespace D
abbrev Pr:=Int×Int
def ltP (a b:Pr):Prop:=a.1<b.1∨a.1=b.1∧a.2<b.2
instance (a b:Pr):Decidable (ltP a b):=inferInstanceAs (Decidable (_∨_))
theorem EN (a:Pr): ¬ltP a a:=by unfold ltP;omega
theorem CZ {a b c:Pr} (h:ltP a b) (k:ltP b c):ltP a c:=by unfold ltP at *;omega
theorem Lq {a b:Pr} (h:ltP a b): ¬ltP b a:=by unfold ltP at *;omega
theorem EO (a b:Pr):ltP a b∨a=b∨ltP b a:=by
 unfold ltP
 by_cases h:a=b
 ·exact .inr (.inl h)
 ·have: ¬(a.1=b.1∧a.2=b.2):=fun e=>h (Prod.ext e.1 e.2)
  omega
abbrev Str (l:List Pr):Prop:=l.Pairwise ltP
theorem q9: ∀ {l m:List Pr},Str l→Str m→(∀x,x∈l↔x∈m)→l=m
 | [],[],_,_,_=>rfl
 | [],b::m,_,_,h=>absurd ((h b).2 (List.mem_cons_self ..)) (by simp)
 | a::l,[],_,_,h=>absurd ((h a).1 (List.mem_cons_self ..)) (by simp)
 | a::l,b::m,hl,hm,h=>by
  obtain ⟨l1,l2⟩:=List.pairwise_cons.1 hl
  obtain ⟨m1,m2⟩:=List.pairwise_cons.1 hm
  have hab:a=b:=by
   rcases List.mem_cons.1 ((h a).1 (List.mem_cons_self ..)) with e | e
   ·exact e
   ·rcases List.mem_cons.1 ((h b).2 (List.mem_cons_self ..)) with f | f
    ·exact f.symm
    ·exact absurd (m1 a e) (Lq (l1 b f))
  subst hab
  rw[q9 l2 m2 fun x=>?_]
  constructor
  ·intro hx
   rcases List.mem_cons.1 ((h x).1 (List.mem_cons_of_mem _ hx)) with e | e
   ·subst e;exact absurd (l1 x hx) (EN x)
   ·exact e
  ·intro hx
   rcases List.mem_cons.1 ((h x).2 (List.mem_cons_of_mem _ hx)) with e | e
   ·subst e;exact absurd (m1 x hx) (EN x)
   ·exact e
def ahd (p:Pr):List Pr→Nat
 | [] =>0
 | a::l=>if ltP a p then ahd p l+1 else 0
theorem Lr (p:Pr): ∀l:List Pr,ahd p l≤l.length
 | [] =>Nat.le_refl _
 | a::l=>by
  unfold ahd
  split
  ·have:=Lr p l;rw[List.length_cons];omega
  ·exact Nat.zero_le _
theorem Qh (p:Pr): ∀(l:List Pr) (i:Nat),i<ahd p l→ ∃x,l[i]? =some x∧ltP x p
 | [],i,h=>by simp[ahd] at h
 | a::l,i,h=>by
  unfold ahd at h
  split at h
  ·rename_i ha
   cases i with
   | zero=>exact ⟨a,rfl,ha⟩
   | succ i =>
    obtain ⟨x,h1,h2⟩:=Qh p l i (by omega)
    exact ⟨x,by simpa using h1,h2⟩
  ·omega
theorem Qi (p:Pr): ∀(l:List Pr) x,l[ahd p l]? =some x→ ¬ltP x p
 | [],x,h=>by simp at h
 | a::l,x,h=>by
  unfold ahd at h
  split at h
  ·exact Qi p l x (by simpa using h)
  ·rename_i ha
   simp at h
   subst h;exact ha
def put (l:List Pr) (p:Pr):List Pr:=if l[ahd p l]? =some p then l else l.take (ahd p l)++p::l.drop (ahd p l)
theorem Gv (a:Pr) (l:List Pr) (p:Pr):put (a::l) p=if ltP a p then a::put l p else if a=p then a::l else p::a::l:=by
 unfold put
 by_cases h:ltP a p
 ·have e:ahd p (a::l)=ahd p l+1:=by rw[ahd,if_pos h]
  rw[e,if_pos h]
  by_cases k:l[ahd p l]? =some p
  ·rw[if_pos (by simpa using k),if_pos k]
  ·rw[if_neg (by simpa using k),if_neg k];rfl
 ·have e:ahd p (a::l)=0:=by rw[ahd,if_neg h]
  rw[e,if_neg h]
  by_cases k:a=p
  ·rw[if_pos (by simp[k]),if_pos k]
  ·rw[if_neg (by simpa using k),if_neg k];rfl
theorem EP {x p:Pr} : ∀l:List Pr,x∈put l p↔x=p∨x∈l
 | [] =>by simp[put,ahd]
 | a::l=>by
  rw[Gv]
  split
  ·rw[List.mem_cons,EP l,List.mem_cons];grind
  ·split
   ·rename_i e;subst e;rw[List.mem_cons];grind
   ·rw[List.mem_cons]
theorem Ls {p:Pr} : ∀ {l:List Pr},Str l→Str (put l p)
 | [],_=>by simp[put,ahd]
 | a::l,h=>by
  obtain ⟨h1,h2⟩:=List.pairwise_cons.1 h
  rw[Gv]
  split
  ·rename_i ha
   refine List.pairwise_cons.2 ⟨fun x hx=>?_,Ls h2⟩
   rcases (EP l).1 hx with rfl | hx
   ·exact ha
   ·exact h1 x hx
  ·rename_i ha
   split
   ·exact h
   ·rename_i hn
    have hp:ltP p a:=by
     rcases EO p a with c | c | c
     ·exact c
     ·exact absurd c.symm hn
     ·exact absurd c ha
    refine List.pairwise_cons.2 ⟨fun x hx=>?_,h⟩
    rcases List.mem_cons.1 hx with rfl | hx
    ·exact hp
    ·exact CZ hp (h1 x hx)
def puts (l m:List Pr):List Pr:=m.foldl put l
theorem lE: ∀ {m l:List Pr},Str l→Str (puts l m)
 | [],l,h=>h
 | p::m,l,h=>lE (m:=m) (Ls h)
theorem jw {x:Pr} : ∀ {m l:List Pr},x∈puts l m↔x∈l∨x∈m
 | [],l=>by simp[puts]
 | p::m,l=>by
  show x∈puts (put l p) m↔_
  rw[jw,EP,List.mem_cons];grind
def nub:List Pr→List Pr
 | [] =>[]
 | [a] =>[a]
 | a::b::l=>if a=b then nub (b::l) else a::nub (b::l)
theorem A2 {x:Pr} : ∀ {l:List Pr},x∈nub l↔x∈l
 | [] =>Iff.rfl
 | [a] =>Iff.rfl
 | a::b::l=>by
  rw[nub]
  split
  ·rename_i e;subst e;rw[A2];simp
  ·rw[List.mem_cons,A2,List.mem_cons (l:=b::l)]
theorem ER: ∀ {l:List Pr},l.Pairwise (fun a b=> ¬ltP b a)→Str (nub l)
 | [],_=>List.Pairwise.nil
 | [a],_=>by simp[nub]
 | a::b::l,h=>by
  obtain ⟨h1,h2⟩:=List.pairwise_cons.1 h
  rw[nub]
  split
  ·exact ER h2
  ·rename_i hn
   refine List.pairwise_cons.2 ⟨fun x hx=>?_,ER h2⟩
   have hab:ltP a b:=by
    rcases EO a b with c | c | c
    ·exact c
    ·exact absurd c hn
    ·exact absurd c (h1 b (List.mem_cons_self ..))
   rcases List.mem_cons.1 (A2.1 hx) with rfl | hx
   ·exact hab
   ·rcases EO b x with c | c | c
    ·exact CZ hab c
    ·subst c;exact hab
    ·exact absurd c ((List.pairwise_cons.1 h2).1 x hx)
theorem Iv {l:List Pr} {f:Pr→Bool} (h:Str l):Str (l.filter f):=List.Pairwise.filter _ h
end D
namespace D
open Go.RowKit
theorem A3 {α R:Type} {f:Int→Option (Out R Int)} (l:List α) (b:α→Bool) (r:Nat→R) (hN:l.length≤9223372036854775807) (h: ∀i (hi:i<l.length),f (i:Int)=some (if b l[i] then .ret (r i) else .nxt ((i+1:Nat):Int))) (he:f (l.length:Int)=some (.brk (l.length:Int))) :
  (∃(i:Nat) (hi:i<l.length),b l[i] =true∧(∀j (hj:j<i),b (l[j]'(by omega))=false)∧ai f aB 0=some (.ret (r i)))∨((∀x,x∈l→b x=false)∧ai f aB 0=some (.brk (l.length:Int))):=by
 obtain ⟨o,e,hQ⟩:=bF (f:=f) (fun i s=>s=(i:Int)∧ ∀j (hj:j<l.length),j<i→b l[j] =false) (fun o=>(∃(i:Nat) (hi:i<l.length),b l[i] =true∧(∀j (hj:j<i),b (l[j]'(by omega))=false)∧o= .ret (r i))∨((∀x,x∈l→b x=false)∧o= .brk (l.length:Int))) l.length (fun i s hi hI=>by
  obtain ⟨rfl,hI⟩:=hI
  by_cases h1:i<l.length
  ·cases hb:b l[i] with
   | true=>exact .inr ⟨_,by rw[h i h1,hb,if_pos rfl],fun s' hh=>by simp at hh,.inl ⟨i,h1,hb,fun j hj=>hI j (by omega) hj,by simp⟩⟩
   | false=>exact .inl ⟨h1,_,by rw[h i h1,hb,if_neg (by simp)],rfl,fun j hj hji=>by
     by_cases c:j=i
     ·subst c;exact hb
     ·exact hI j hj (by omega)⟩
  ·obtain rfl:i=l.length:=by omega
   exact .inr ⟨_,he,fun s' hh=>by simp at hh,.inr ⟨fun x hx=>by
    obtain ⟨j,hj,rfl⟩:=List.getElem_of_mem hx
    exact hI j hj hj,rfl⟩⟩) (s:=0) ⟨rfl,fun j hj h0=>by omega⟩ (na _ hN)
 rcases hQ with ⟨i,hi,h1,h2,rfl⟩ | ⟨h1,rfl⟩
 ·exact .inl ⟨i,hi,h1,h2,e⟩
 ·exact .inr ⟨h1,e⟩
section
variable {l m:List Pr} {p:Pr}
theorem V6 {a b:Pr} :((a.1==b.1)&&((a.2==b.2)&&true))=decide (a=b):=by
 rw[Bool.eq_iff_iff];simp[Prod.ext_iff]
theorem V7 {a b:Pr} :(Bool.and.match_1 (fun (_:Bool)=>Bool) (a.1==b.1) (fun (_:Unit)=>false) (fun (_:Unit)=>Bool.and.match_1 (fun (_:Bool)=>Bool) (a.2==b.2) (fun (_:Unit)=>false) (fun (_:Unit)=>true)))=decide (a=b):=V6
theorem V8 (hl:l.length≤1073741824):qL l p=some (decide (p∈l)):=by
 unfold qL
 rcases A3 (f:=lp l p) l (fun x=>decide (x=p)) (fun _=>true) (by omega) (fun i hi=>by
   unfold lp
   rw[bA hi,if_pos rfl,aq hi]
   simp only[Option.bind_some,V6,aa (show i<9223372036854775807 by omega)]
   split <;> rfl) (by
   unfold lp
   rw[bh];rfl) with ⟨i,hi,h1,-,e⟩ | ⟨h1,e⟩
 ·rw[aK e,decide_eq_true (by rw[←of_decide_eq_true h1];exact List.getElem_mem hi)]
 ·rw[ae e,decide_eq_false fun hm=>by have:=h1 p hm;simp at this]
theorem V9 (hl:l.length≤1073741824): ∃r:Int,bO l p=some r∧(0≤r↔p∈l):=by
 unfold bO
 rcases A3 (f:=bu l p) l (fun x=>decide (p=x)) (fun i=>(i:Int)) (by omega) (fun i hi=>by
   unfold bu
   rw[bA hi,if_pos rfl,aq hi]
   simp only[Option.bind_some,V6,aa (show i<9223372036854775807 by omega)]
   split <;> rfl) (by
   unfold bu
   rw[bh];rfl) with ⟨i,hi,h1,-,e⟩ | ⟨h1,e⟩
 ·exact ⟨_,aK e,by
   have:p∈l:=by rw[of_decide_eq_true h1];exact List.getElem_mem hi
   simp[this]⟩
 ·exact ⟨_,ae e,by
   have:p∉l:=fun hm=>by have:=h1 p hm;simp at this
   simp[this]⟩
theorem Wa (hl:l.length≤1073741824):bw l p=some (decide (p∈l)):=by
 unfold bw
 obtain ⟨r,e,h⟩:=V9 (l:=l) (p:=p) hl
 rw[eQ,e,Option.bind_some]
 congr 1
 rw[Bool.eq_iff_iff,decide_eq_true_iff,decide_eq_true_iff]
 exact h
theorem Uu {d:Pr→Bool} {f:Pr→Option Bool} (hf: ∀x,f x=some (d x)) (hl:l.length≤1073741824) :
  (∃(i:Nat) (hi:i<l.length),d l[i] =true∧(∀j (hj:j<i),d (l[j]'(by omega))=false)∧aZ l f=some (i:Int))∨((∀x,x∈l→d x=false)∧aZ l f=some (-1)):=by
 unfold aZ
 rcases A3 (f:=be l f) l d (fun i=>(i:Int)) (by omega) (fun i hi=>by
   unfold be
   rw[bA hi,if_pos rfl,aq hi]
   simp only[Option.bind_some,eQ,hf,aa (show i<9223372036854775807 by omega)]
   split <;> rfl) (by
   unfold be
   rw[bh];rfl) with ⟨i,hi,h1,h2,e⟩ | ⟨h1,e⟩
 ·exact .inl ⟨i,hi,h1,h2,aK e⟩
 ·exact .inr ⟨h1,ae e⟩
theorem Lt (a b:Pr):jT a b=some (decide (ltP a b)):=by
 unfold jT ltP
 by_cases h:a.1<b.1
 ·simp[h]
 ·by_cases k:a.1=b.1 <;> simp[h,k]
theorem Uv (a b:Pr): ∃r:Int,fm a b=some r∧(0≤r↔ ¬ltP a b):=by
 unfold fm jh ltP
 by_cases k:a.1=b.1
 ·by_cases h:a.2<b.2
  ·exact ⟨-1,by simp[k,h],by simp[k,h]⟩
  ·by_cases h2:b.2<a.2
   ·exact ⟨1,by simp[k,h,h2],by simp[k,h]⟩
   ·exact ⟨0,by simp[k,h,h2],by simp[k,h]⟩
 ·by_cases h:a.1<b.1
  ·exact ⟨-1,by simp[k,h],by simp[k,h]⟩
  ·have h2:b.1<a.1:=by omega
   exact ⟨1,by simp[k,h,h2],by simp[k,h]⟩
theorem A4:dI l=eU l:=by
 unfold dI eU
 have e:lW l=gg l:=by
  funext s
  unfold lW gg
  have hw:bG=aS:=rfl
  rw[hw]
  cases hg:aw l s with
  | none=>rfl
  | some x =>
   have hk: ∀y:Pr,((jT (y.1,y.2) (x.1,x.2)).bind fun r9=>if r9=true then some (Out.nxt (R:=Bool) (IntKind.i64.wrap (s+1))) else some (Out.ret false))=((fm (y.1,y.2) (x.1,x.2)).bind fun r9=>if decide (r9≥0)=true then some (Out.ret false) else some (Out.nxt (IntKind.i64.wrap (s+1)))):=fun y=>by
    rw[Lt]
    obtain ⟨r,e,h⟩:=Uv (y.1,y.2) (x.1,x.2)
    rw[e]
    simp only[Option.bind_some,eQ] at h⊢
    by_cases c:ltP y x
    ·rw[if_pos (decide_eq_true c),if_neg (by simpa using fun q=>(h.1 q) c)]
    ·rw[if_neg (by simpa using c),if_pos (by simpa using h.2 c)]
   simp only[Option.bind_some,hk]
 rw[e]
end
end D
namespace D
open Go.RowKit
theorem Lu (l:List Pr) (p:Pr):(put l p).length≤l.length+1:=by
 have:=Lr p l
 unfold put
 split
 ·omega
 ·rw[List.length_append,List.length_take,List.length_cons,List.length_drop];omega
theorem kH: ∀(m l:List Pr),(puts l m).length≤l.length+m.length
 | [],l=>Nat.le_refl _
 | p::m,l=>by
  have h1:=kH m (put l p)
  have h2:=Lu l p
  show (puts (put l p) m).length≤_
  rw[List.length_cons];omega
theorem qn (l m:List Pr) (p:Pr):puts l (m++ [p])=put (puts l m) p:=by simp[puts]
theorem C1 (l:List Pr) (p:Pr) (hl:l.length≤1073741824):fu l p=some (put l p):=by
 have hk:=Lr p l
 have e:ai (ln l p) aB 0=some (.brk ((ahd p l:Nat):Int)):=by
  obtain ⟨o,e,rfl⟩:=bF (f:=ln l p) (fun i s=>s=(i:Int)) (fun o=>o= .brk ((ahd p l:Nat):Int)) (ahd p l) (fun i s hi hI=>by
   subst hI
   unfold ln
   by_cases h1:i<ahd p l
   ·obtain ⟨x,g1,g2⟩:=Qh p l i h1
    have hil:i<l.length:=by omega
    rw[List.getElem?_eq_getElem hil] at g1
    obtain rfl:=Option.some.inj g1
    refine .inl ⟨h1,((i+1:Nat):Int),?_,rfl⟩
    rw[bA hil,if_pos rfl,aq hil]
    simp only[Option.bind_some,Lt,eQ]
    rw[if_pos (decide_eq_true g2),aa (by omega)]
   ·obtain rfl:i=ahd p l:=by omega
    refine .inr ⟨_,?_,fun s' hh=>(by simp at hh),rfl⟩
    by_cases hil:ahd p l<l.length
    ·have g:=Qi p l _ (List.getElem?_eq_getElem hil)
     rw[bA hil,if_pos rfl,aq hil]
     simp only[Option.bind_some,Lt,eQ]
     rw[if_neg (by simpa using g)]
    ·rw[if_neg (by simp;omega)]) (s:=0) rfl (na _ (by omega))
  exact e
 unfold fu
 rw[ae e]
 have c1:chk ((0:Int)≤((ahd p l:Nat):Int)∧((ahd p l:Nat):Int)≤(l.length:Int))=some ():=if_pos (by omega)
 have a1:da 16 ([] :List Pr) ((l.take (ahd p l)).drop 0)=some (l.take (ahd p l)):=by
  rw[List.drop_zero,au (by simp only[List.length_nil,List.length_take];omega)];rfl
 have a2:da 16 (l.take (ahd p l)) [p] =some (l.take (ahd p l)++ [p]):=au (by simp only[List.length_singleton,List.length_take];omega)
 have a3:da 16 (l.take (ahd p l)++ [p]) ((l.take l.length).drop (ahd p l))=some (l.take (ahd p l)++p::l.drop (ahd p l)):=by
  rw[List.take_of_length_le (Nat.le_refl _),au (by simp only[List.length_append,List.length_singleton,List.length_take,List.length_drop];omega),List.append_assoc];rfl
 simp only[c1,Option.bind_some,Int.toNat_natCast,a1,a2,a3,eQ]
 unfold put
 by_cases hil:ahd p l<l.length
 ·rw[bA hil,if_pos rfl,aq hil]
  simp only[Option.bind_some,V7]
  rw[List.getElem?_eq_getElem hil]
  by_cases h:l[ahd p l] =p
  ·rw[if_pos (decide_eq_true h),if_pos (by rw[h])]
  ·rw[if_neg (by simpa using h),if_neg (by simpa using h)]
 ·rw[if_neg (by simp;omega),List.getElem?_eq_none (by omega),if_neg (by simp)]
theorem ES {a b:List Pr} (ha:a.length≤67108864) (hb:b.length≤67108864):fv a b=some (puts [] (a++b)):=by
 unfold fv
 obtain ⟨s1,e1,rfl⟩:=cR (f:=gB a) (fun i s=>s=(puts [] (a.take i),(i:Int))) a.length (fun i s hi hI=>by
  subst hI
  have hln:=kH (a.take i) []
  rw[List.length_take] at hln
  refine ⟨_,?_,rfl⟩
  unfold gB
  rw[bA hi,if_pos rfl,aq hi]
  simp only[Option.bind_some,eQ]
  rw[C1 _ _ (by simp only[List.length_nil] at hln;omega)]
  simp only[Option.bind_some]
  rw[aa (by omega),List.take_succ_eq_append_getElem hi,qn]) (fun s hI=>by
  subst hI
  unfold gB
  rw[bh];rfl) (s:=(([] :List Pr),0)) rfl (na _ (by omega))
 rw[ae e1,List.take_of_length_le (Nat.le_refl _)]
 obtain ⟨s2,e2,rfl⟩:=cR (f:=gC b) (fun i s=>s=(puts [] (a++b.take i),(i:Int))) b.length (fun i s hi hI=>by
  subst hI
  have hln:=kH (a++b.take i) []
  rw[List.length_append,List.length_take] at hln
  refine ⟨_,?_,rfl⟩
  unfold gC
  rw[bA hi,if_pos rfl,aq hi]
  simp only[Option.bind_some,eQ]
  rw[C1 _ _ (by simp only[List.length_nil] at hln;omega)]
  simp only[Option.bind_some]
  rw[aa (by omega),List.take_succ_eq_append_getElem hi,←List.append_assoc,qn]) (fun s hI=>by
  subst hI
  unfold gC
  rw[bh];rfl) (s:=(puts [] a,0)) (by simp) (na _ (by omega))
 rw[ae e2,List.take_of_length_le (Nat.le_refl _)]
theorem zP {a b:List Pr} (ha:a.length≤67108864) (hb:b.length≤67108864):eH a b=some (puts [] (a.filter fun x=> !decide (x∈b))):=by
 unfold eH
 obtain ⟨s1,e1,rfl⟩:=cR (f:=dW a b) (fun i s=>s=(puts [] ((a.take i).filter fun x=> !decide (x∈b)),(i:Int))) a.length (fun i s hi hI=>by
  subst hI
  have hln:=kH ((a.take i).filter fun x=> !decide (x∈b)) []
  have hl2:=List.length_filter_le (fun x=> !decide (x∈b)) (a.take i)
  rw[List.length_take] at hl2
  refine ⟨_,?_,rfl⟩
  unfold dW
  rw[bA hi,if_pos rfl,aq hi]
  simp only[Option.bind_some,eQ]
  rw[V8 (by omega)]
  simp only[Option.bind_some]
  rw[aa (by omega),List.take_succ_eq_append_getElem hi,List.filter_append]
  by_cases h:a[i] ∈ b
  ·rw[if_pos (decide_eq_true h)]
   simp[h]
  ·rw[if_neg (by simpa using h),C1 _ _ (by simp only[List.length_nil] at hln;omega)]
   simp only[Option.bind_some]
   rw[show [a[i]].filter (fun x=> !decide (x∈b))= [a[i]] from by simp[h],qn]) (fun s hI=>by
  subst hI
  unfold dW
  rw[bh];rfl) (s:=(([] :List Pr),0)) rfl (na _ (by omega))
 rw[ae e1,List.take_of_length_le (Nat.le_refl _)]
end D
namespace D
open Go.RowKit
theorem yF {c:Prop} [Decidable c] (h:c):chk c=some ():=if_pos h
theorem zQ {α:Type} {xs:List α} {i n:Nat} {z:α} (h:i≤xs.length):(pq xs i n z).take i=xs.take i:=by
 unfold pq
 rw[List.take_append_of_le_length (by rw[List.length_take];omega),List.take_take,Nat.min_self]
theorem C2 {α:Type} {xs:List α} {i:Nat} {z:α} (h:i≤xs.length):(pq xs i xs.length z).length=xs.length:=uR h (Nat.le_refl _)
theorem Gw {α:Type} {ys:List α} {i:Nat} {x:α} (h:i<ys.length):(ys.set i x).take (i+1)=ys.take i++ [x]:=by
 rw[List.take_succ_eq_append_getElem (by simpa using h)]
 simp[List.take_set_of_le]
theorem set_drop {α:Type} {ys:List α} {i j:Nat} {x:α} (h:i<j):(ys.set i x).drop j=ys.drop j:=by
 apply List.ext_getElem?
 intro q
 rw[List.getElem?_drop,List.getElem?_drop,List.getElem?_set_ne (by omega)]
theorem xT {α:Type} {ys xs:List α} {j:Nat} (h:ys.drop j=xs.drop j):ys.drop (j+1)=xs.drop (j+1):=by
 rw[←List.drop_drop,h,List.drop_drop]
theorem A5 {α:Type} {ys xs:List α} {j q:Nat} (h:ys.drop j=xs.drop j) (hq:j≤q) (h1:q<ys.length) (h2:q<xs.length):ys[q] =xs[q]:=by
 have e:=congrArg (fun l=>l[q - j]?) h
 simp only[List.getElem?_drop,show j+(q - j)=q from by omega] at e
 rw[List.getElem?_eq_getElem h1,List.getElem?_eq_getElem h2] at e
 exact Option.some.inj e
section
variable {α:Type} [DecidableEq α]
end
end D
namespace D
open Go.RowKit
theorem Wb {d:Pr→Bool} {f:Pr→Option Bool} (hf: ∀x,f x=some (d x)) (xs:List Pr) (hl:xs.length≤1073741824):bm xs f=some (xs.filter fun x=> !d x):=by
 unfold bm
 rcases Uu (l:=xs) (d:=d) (f:=f) hf hl with ⟨r,hr,h1,h2,e⟩ | ⟨h1,e⟩
 ·rw[e]
  simp only[Option.bind_some]
  have hne:(((r:Nat):Int) == -1)=false:=beq_eq_false_iff_ne.2 (by omega)
  rw[hne]
  simp only[Bool.false_eq_true,if_false]
  rw[aa (by omega)]
  have hk0:(xs.take (r+1)).filter (fun x=> !d x)=xs.take r:=by
   rw[List.take_succ_eq_append_getElem hr,List.filter_append]
   rw[show [xs[r]].filter (fun x=> !d x)= [] from by simp[h1],List.append_nil,List.filter_eq_self]
   intro a ha
   obtain ⟨j,hj,rfl⟩:=List.getElem_of_mem ha
   rw[List.length_take] at hj
   rw[List.getElem_take,h2 j (by omega)];rfl
  obtain ⟨s,e1,ys,rfl,k1,k2,k3,k4⟩:=cR (f:=ba f) (fun t s=> ∃ys:List Pr,s=((((xs.take (r+1+t)).filter (fun x=> !d x)).length:Int),((r+1+t:Nat):Int),ys)∧ys.length=xs.length∧ys.take ((xs.take (r+1+t)).filter (fun x=> !d x)).length=(xs.take (r+1+t)).filter (fun x=> !d x)∧ys.drop (r+1+t)=xs.drop (r+1+t)∧((xs.take (r+1+t)).filter (fun x=> !d x)).length≤r+t) (xs.length - (r+1)) (fun t s ht hI=>by
   obtain ⟨ys,rfl,k1,k2,k3,k4⟩:=hI
   have hj:r+1+t<xs.length:=by omega
   unfold ba
   rw[show ((ys.length:Nat):Int)=(xs.length:Int) from by rw[k1],bA hj,if_pos rfl,aq (xs:=ys) (by omega),A5 k3 (Nat.le_refl _) (by omega) hj]
   simp only[Option.bind_some,eQ,hf]
   have hnx:(xs.take (r+1+(t+1))).filter (fun x=> !d x)=(xs.take (r+1+t)).filter (fun x=> !d x)++ [xs[r+1+t]].filter (fun x=> !d x):=by
    rw[←List.filter_append,←List.take_succ_eq_append_getElem hj];rfl
   generalize (xs.take (r+1+t)).filter (fun x=> !d x)=K at *
   rw[hnx]
   cases hd:d xs[r+1+t] with
   | true =>
    rw[if_pos rfl]
    simp only[Option.bind_some]
    rw[aa (by omega),show [xs[r+1+t]].filter (fun x=> !d x)= [] from by simp[hd],List.append_nil]
    exact ⟨_,rfl,ys,rfl,k1,k2,xT k3,by omega⟩
   | false =>
    rw[if_neg (by simp),aq (xs:=ys) (by omega)]
    simp only[Option.bind_some]
    rw[aa (by omega),aa (by omega),show [xs[r+1+t]].filter (fun x=> !d x)= [xs[r+1+t]] from by simp[hd]]
    refine ⟨_,rfl,ys.set K.length xs[r+1+t],?_,by simpa using k1,?_,?_,?_⟩
    ·rw[List.length_append,List.length_singleton];rfl
    ·rw[List.length_append,List.length_singleton,Gw (by omega),k2]
    ·rw[set_drop (by omega)];exact xT k3
    ·rw[List.length_append,List.length_singleton];omega) (fun s hI=>by
   obtain ⟨ys,rfl,k1,k2,k3,k4⟩:=hI
   unfold ba
   rw[if_neg (by simp;omega)]) (s:=(((r:Nat):Int),((r+1:Nat):Int),xs)) ⟨xs,by rw[Nat.add_zero,hk0,List.length_take,Nat.min_eq_left (by omega)],rfl,by rw[Nat.add_zero,hk0,List.length_take,Nat.min_eq_left (by omega)],rfl,by rw[Nat.add_zero,hk0,List.length_take];omega⟩ (na _ (by omega))
  rw[ae e1]
  have hall:xs.take (r+1+(xs.length - (r+1)))=xs:=List.take_of_length_le (by omega)
  rw[hall] at k2 k4⊢
  generalize (xs.filter fun x=> !d x)=K at *
  have q0:K.length≤ys.length:=by omega
  have z1:((0:Int)+((K.length:Nat):Int)).toNat=K.length:=by omega
  have z2:((0:Int)+(((ys.length:Nat):Int) - 0)).toNat=ys.length:=by omega
  simp only[z1,z2]
  have zl:=C2 (z:=((0,0):Pr)) q0
  rw[yF (by omega),Option.bind_some,yF (by omega),Option.bind_some,yF (by rw[zl];omega),Option.bind_some,zQ q0,k2,List.drop_zero]
 ·rw[e]
  simp only[Option.bind_some]
  rw[if_pos (by rfl)]
  congr 1
  exact (List.filter_eq_self.2 fun a ha=>by rw[h1 a ha];rfl).symm
theorem Gx: ∀(l:List Pr) (b:Pr),l≠ [] →nub (l++ [b])=if l.getLast? =some b then nub l else nub l++ [b]
 | [],b,h=>absurd rfl h
 | [a],b,_=>by
  by_cases e:a=b
  ·subst e;simp[nub]
  ·simp[nub,e]
 | a::c::l,b,_=>by
  have ih:=Gx (c::l) b (by simp)
  have hg:(a::c::l).getLast? =(c::l).getLast? :=by simp[List.getLast?_cons_cons]
  rw[hg]
  show nub (a::c::(l++ [b]))=_
  rw[nub,nub]
  rw[show c::(l++ [b])=(c::l)++ [b] from rfl,ih]
  by_cases e:a=c
  ·rw[if_pos e,if_pos e]
  ·rw[if_neg e,if_neg e]
   split <;> simp
theorem A6 {xs:List Pr} {j:Nat} (h0:0<j) (h:j<xs.length):nub (xs.take (j+1))=if xs[j - 1] =xs[j] then nub (xs.take j) else nub (xs.take j)++ [xs[j]]:=by
 rw[List.take_succ_eq_append_getElem h,Gx _ _ (by
  intro e
  have h9:=congrArg List.length e
  rw[List.length_take,Nat.min_eq_left (Nat.le_of_lt h),List.length_nil] at h9
  omega)]
 have hg:(xs.take j).getLast? =some xs[j - 1]:=by
  rw[List.getLast?_eq_getElem?,List.length_take,Nat.min_eq_left (Nat.le_of_lt h),List.getElem?_take,if_pos (show j - 1<j by omega),List.getElem?_eq_getElem (show j - 1<xs.length by omega)]
 rw[hg]
 by_cases e:xs[j - 1] =xs[j]
 ·rw[if_pos (by rw[e]),if_pos e]
 ·rw[if_neg (by simpa using e),if_neg e]
theorem Gy {xs:List Pr} : ∀(j:Nat),j≤xs.length→(∀q (hq:q<j) (h0:0<q) (hx:j≤xs.length),xs[q - 1]'(by omega)≠xs[q]'(by omega))→nub (xs.take j)=xs.take j
 | 0,_,_=>by simp[nub]
 | 1,h,_=>by
  cases xs with
  | nil=>simp[nub]
  | cons a l=>simp[nub]
 | j+2,h,hq=>by
  rw[A6 (by omega) (by omega),if_neg (hq (j+1) (by omega) (by omega) h),Gy (j+1) (by omega) (fun q h1 h2 h3=>hq q (by omega) h2 h),←List.take_succ_eq_append_getElem]
end D
namespace D
open Go.RowKit
theorem Lv (xs:List Pr) (hl:xs.length≤1073741824):bE xs=some (nub xs):=by
 unfold bE
 by_cases h2:xs.length<2
 ·rw[if_pos (by simp;omega)]
  cases xs with
  | nil=>rfl
  | cons a l =>
   cases l with
   | nil=>rfl
   | cons b l=>simp only[List.length_cons] at h2;omega
 rw[if_neg (by simp;omega)]
 have key:(ai (aW xs) aB 1=some (.ret (nub xs)))∨(∃s,ai (aW xs) aB 1=some (.brk s)∧nub xs=xs):=by
  obtain ⟨o,e,hQ⟩:=bF (f:=aW xs) (fun t s=>s=((t+1:Nat):Int)∧nub (xs.take (t+1))=xs.take (t+1)) (fun o=>o= .ret (nub xs)∨ ∃s,o= .brk s∧nub xs=xs) (xs.length - 1) (fun t s ht hI=>by
   obtain ⟨rfl,hI⟩:=hI
   unfold aW
   by_cases h1:t+1<xs.length
   ·have hp:((t+1:Nat):Int) - 1=((t:Nat):Int):=by omega
    rw[bA h1,if_pos rfl,aq h1,bZ (n:=((t+1:Nat):Int) - 1) (by omega) (by omega),hp,aq (show t<xs.length by omega)]
    simp only[Option.bind_some,V7]
    have hn:=A6 (xs:=xs) (j:=t+1) (by omega) h1
    rw[hI] at hn
    simp only[Nat.add_sub_cancel] at hn
    by_cases he:xs[t+1] =xs[t]
    ·rw[if_pos (decide_eq_true he),yF (by omega),Option.bind_some]
     rw[if_pos he.symm] at hn
     have hlt:(xs.take (t+1)).length=t+1:=by rw[List.length_take];omega
     obtain ⟨s,e1,ys,rfl,k1,k2,k3,k4⟩:=cR (f:=bj xs ((t+1:Nat):Int)) (fun u s=> ∃ys:List Pr,s=(((nub (xs.take (t+2+u))).length:Int),((u+1:Nat):Int),ys)∧ys.length=xs.length∧ys.take (nub (xs.take (t+2+u))).length=nub (xs.take (t+2+u))∧ys.drop (t+1+u)=xs.drop (t+1+u)∧(nub (xs.take (t+2+u))).length≤t+1+u) (xs.length - (t+2)) (fun u s hu hI=>by
      obtain ⟨ys,rfl,k1,k2,k3,k4⟩:=hI
      have hj:t+2+u<xs.length:=by clear k4 k2;omega
      have hj1:t+1+u<xs.length:=by clear k4 k2;omega
      have hj2:t+2+u<ys.length:=by clear k4 k2;omega
      have hj3:t+1+u<ys.length:=by clear k4 k2;omega
      have a1:(0+((t+1:Nat):Int))+((u+1:Nat):Int)=((t+2+u:Nat):Int):=by omega
      have a2:((u+1:Nat):Int) - 1=((u:Nat):Int):=by omega
      have a3:(0+((t+1:Nat):Int))+((u:Nat):Int)=((t+1+u:Nat):Int):=by omega
      unfold bj
      dsimp only
      rw[if_pos (by simp;omega),yF (by omega)]
      simp only[Option.bind_some]
      rw[bZ (n:=((u+1:Nat):Int) - 1) (by omega) (by omega),a1,a2,a3,aq (xs:=ys) hj2,aq (xs:=ys) hj3,yF (by omega),A5 k3 (by omega) hj2 hj,A5 k3 (Nat.le_refl _) hj3 hj1]
      simp only[Option.bind_some,V7,eQ]
      have e9:t+2+u - 1=t+1+u:=by clear k4 k2;omega
      have e8:0<t+2+u:=by clear k4 k2;omega
      have hnx:=A6 (xs:=xs) (j:=t+2+u) e8 hj
      simp only[e9] at hnx
      have hd:=xT k3
      rw[show t+1+u+1=t+1+(u+1) from by omega] at hd
      rw[show t+2+(u+1)=t+2+u+1 from by omega,hnx]
      generalize nub (xs.take (t+2+u))=K at *
      by_cases hq:xs[t+2+u] =xs[t+1+u]
      ·rw[if_pos (decide_eq_true hq),if_pos hq.symm]
       simp only[Option.bind_some]
       rw[aa (by omega)]
       exact ⟨_,rfl,ys,rfl,k1,k2,hd,by omega⟩
      ·rw[if_neg (by simpa using hq),if_neg (fun e=>hq e.symm),aq (xs:=ys) (show K.length<ys.length by omega)]
       simp only[Option.bind_some]
       rw[aa (by omega),aa (by omega)]
       refine ⟨_,rfl,ys.set K.length xs[t+2+u],?_,by simpa using k1,?_,?_,?_⟩
       ·rw[List.length_append,List.length_singleton];rfl
       ·rw[List.length_append,List.length_singleton,Gw (by omega),k2]
       ·rw[set_drop (by omega)];exact hd
       ·rw[List.length_append,List.length_singleton];omega) (fun s hI=>by
      obtain ⟨ys,rfl,k1,k2,k3,k4⟩:=hI
      unfold bj
      rw[if_neg (by simp;omega)]) (s:=(((t+1:Nat):Int),1,xs)) ⟨xs,by rw[Nat.add_zero,hn,hlt];rfl,rfl,by rw[Nat.add_zero,hn,hlt],rfl,by rw[Nat.add_zero,hn,hlt];omega⟩ (na _ (by omega))
     refine .inr ⟨.ret (nub xs),?_,fun s' hh=>(by simp at hh),.inl rfl⟩
     rw[ae e1]
     have hall:xs.take (t+2+(xs.length - (t+2)))=xs:=List.take_of_length_le (by omega)
     rw[hall] at k2 k4⊢
     generalize nub xs=K at *
     have q0:K.length≤ys.length:=by omega
     have z1:((0:Int)+((K.length:Nat):Int)).toNat=K.length:=by omega
     have z2:((0:Int)+(((ys.length:Nat):Int) - 0)).toNat=ys.length:=by omega
     simp only[z1,z2]
     have zl:=C2 (z:=((0,0):Pr)) q0
     rw[yF (by omega),Option.bind_some,yF (by omega),Option.bind_some,yF (by rw[zl];omega),Option.bind_some,zQ q0,k2,List.drop_zero]
    ·rw[if_neg (by simpa using he),aa (by omega)]
     rw[if_neg (fun e=>he e.symm),←List.take_succ_eq_append_getElem h1] at hn
     exact .inl ⟨by omega,_,rfl,rfl,hn⟩
   ·refine .inr ⟨.brk ((t+1:Nat):Int),?_,fun s' hh=>(by simp at hh),.inr ⟨_,rfl,?_⟩⟩
    ·rw[if_neg (by simp;omega)]
    ·rw[List.take_of_length_le (by omega)] at hI;exact hI) (s:=1) ⟨rfl,Gy 1 (by omega) (fun q h1 h0=>by omega)⟩ (na _ (by omega))
  rcases hQ with rfl | ⟨s,rfl,h⟩
  ·exact .inl e
  ·exact .inr ⟨s,e,h⟩
 rcases key with e | ⟨s,e,h⟩
 ·rw[aK e]
 ·rw[ae e,h]
def Ti (l:List Pr):List Pr:=nub (R.HM R.HO l)
theorem OP (l:List Pr):(R.HM R.HO l).Pairwise (fun a b=> ¬ltP b a):=by
 have hle: ∀a b:Pr,(!(ltOf R.HO b a))=true↔ ¬ltP b a:=fun a b=>by
  rw[Bool.not_eq_true',R.vM];rfl
 have h:=List.pairwise_mergeSort (le:=fun x y=> !(ltOf R.HO y x)) (fun a b c h1 h2=>by
  rw[hle] at *
  intro h
  unfold ltP at *
  omega) (fun a b=>by
  rw[Bool.or_eq_true,hle,hle]
  unfold ltP
  omega) l
 exact h.imp fun {a b} h=>(hle a b).1 h
theorem A7 (l:List Pr):Str (Ti l):=ER (OP l)
theorem A8 {l:List Pr} {x:Pr} :x∈Ti l↔x∈l:=by
 unfold Ti
 rw[A2]
 exact List.mem_mergeSort
theorem C3 (l:List Pr) (hl:l.length≤268435456):gf l=some (Ti l):=by
 unfold gf cy R.Ou
 rw[au (by simp only[List.length_nil];omega)]
 simp only[Option.bind_some,List.nil_append]
 rw[yF (by omega)]
 simp only[Option.bind_some]
 rw[Lv _ (by rw[R.CG];omega)]
 rfl
theorem tz (l:List Pr):Ti l=puts [] l:=q9 (A7 l) (lE List.Pairwise.nil) fun x=>by rw[A8,jw];simp
theorem Uw {a b:List Pr} (ha:a.length≤67108864) (hb:b.length≤67108864):eL a b=some (puts [] (a.filter fun x=> !decide (x∈b))):=by
 have hlen:(Ti a).length≤a.length:=by rw[tz];have:=kH a [];simpa using this
 unfold eL
 rw[C3 a (by omega)]
 simp only[Option.bind_some]
 rw[Wb (d:=fun x=>decide (x∈b)) (fun x=>by unfold iG;rw[eQ,Wa (by omega)];rfl) _ (by omega)]
 simp only[Option.bind_some]
 congr 1
 refine q9 (Iv (A7 a)) (lE List.Pairwise.nil) fun x=>?_
 rw[jw,List.mem_filter,List.mem_filter,A8];simp
theorem Sn {a b:List Pr} (ha:a.length≤67108864) (hb:b.length≤67108864):fy a b=some (puts [] (a++b)):=by
 unfold fy
 rw[au (by simp only[List.length_nil];omega)]
 simp only[Option.bind_some,List.nil_append]
 rw[au (by omega)]
 simp only[Option.bind_some]
 rw[C3 _ (by rw[List.length_append];omega),tz];rfl
theorem ET (l:List Pr) (hl:l.length≤1073741824): ∃b,eU l=some b:=by
 unfold eU
 obtain ⟨o,e,hQ⟩:=bF (f:=gg l) (fun i s=>s=(i:Int)) (fun o=>o= .ret false∨ ∃s,o= .brk s) l.length (fun i s hi hI=>by
  subst hI
  unfold gg aS
  by_cases h1:i<l.length
  ·rw[bA h1,if_pos rfl,aq h1,aa (by omega)]
   have fin: ∀c:Prop,[Decidable c] →(i<l.length∧ ∃s',(if c then some (.ret false) else some (.nxt ((i+1:Nat):Int)):Option (Out Bool Int))=some (.nxt s')∧s'=((i+1:Nat):Int))∨ ∃o,(if c then some (.ret false) else some (.nxt ((i+1:Nat):Int)):Option (Out Bool Int))=some o∧(∀s',o≠ .nxt s')∧(o= .ret false∨ ∃s,o= .brk s):=by
    intro c _
    split
    ·exact .inr ⟨_,rfl,fun s' h=>by simp at h,.inl rfl⟩
    ·exact .inl ⟨h1,_,rfl,rfl⟩
   have bad:(i<l.length∧ ∃s',(some (.ret false):Option (Out Bool Int))=some (.nxt s')∧s'=((i+1:Nat):Int))∨ ∃o,(some (.ret false):Option (Out Bool Int))=some o∧(∀s',o≠ .nxt s')∧(o= .ret false∨ ∃s,o= .brk s):=.inr ⟨_,rfl,fun s' h=>by simp at h,.inl rfl⟩
   have good:(i<l.length∧ ∃s',(some (.nxt ((i+1:Nat):Int)):Option (Out Bool Int))=some (.nxt s')∧s'=((i+1:Nat):Int))∨ ∃o,(some (.nxt ((i+1:Nat):Int)):Option (Out Bool Int))=some o∧(∀s',o≠ .nxt s')∧(o= .ret false∨ ∃s,o= .brk s):=.inl ⟨h1,_,rfl,rfl⟩
   by_cases c1:l[i].1≥0
   ·by_cases c2:l[i].1≤4
    ·by_cases c3:l[i].2≥0
     ·by_cases c4:l[i].2≤4
      ·by_cases c5:(i:Int)>0
       ·have hp:IntKind.i64.wrap ((i:Int) - 1)=((i - 1:Nat):Int):=by rw[bZ (by omega) (by omega)];omega
        obtain ⟨r,er,-⟩:=Uv l[i - 1] l[i]
        simp only[Option.bind_some,c1,c2,c3,c4,c5,decide_true,if_true,hp,aq (show i - 1<l.length by omega),eQ,er]
        exact fin _
       ·simp only[Option.bind_some,c1,c2,c3,c4,c5,decide_true,if_true,decide_false,Bool.false_eq_true,if_false]
        exact good
      ·simp only[Option.bind_some,c1,c2,c3,c4,decide_true,if_true,decide_false,Bool.false_eq_true,if_false]
       exact bad
     ·simp only[Option.bind_some,c1,c2,c3,decide_true,if_true,decide_false,Bool.false_eq_true,if_false]
      exact bad
    ·simp only[Option.bind_some,c1,c2,decide_true,if_true,decide_false,Bool.false_eq_true,if_false]
     exact bad
   ·simp only[Option.bind_some,c1,decide_false,Bool.false_eq_true,if_false]
    exact bad
  ·obtain rfl:i=l.length:=by omega
   rw[bh]
   exact .inr ⟨_,rfl,fun s' h=>by simp at h,.inr ⟨_,rfl⟩⟩) (s:=0) rfl (na _ (by omega))
 rcases hQ with rfl | ⟨s,rfl⟩
 ·exact ⟨_,aK e⟩
 ·exact ⟨_,ae e⟩
end D
namespace D
open Go.RowKit
abbrev AutT:=Int×(List Bool)×(List (List Int))
structure VA (a:AutT) (n:Nat):Prop where
 len:a.2.1.length=n
 start:0≤a.1∧a.1<n
 nlen:a.2.2.length=n
 row: ∀r∈a.2.2,r.length=9
 ent: ∀r∈a.2.2,∀t∈r,-1≤t∧t<n
def mv (a:AutT) (s:Int) (k:Nat):Int:=nth (nth a.2.2 s) k
theorem Lw (x l h:Int):bG x l h=some (decide (l≤x∧x≤h)):=by
 unfold bG
 by_cases c:l≤x
 ·simp[c]
 ·have: ¬l≤x∧True:=⟨c,trivial⟩
  simp[c]
theorem EU (x l h:Int):aS x l h=some (decide (l≤x∧x≤h)):=by
 unfold aS
 by_cases c:l≤x
 ·simp[c]
 ·simp[c]
theorem scan {α R:Type} [Inhabited α] {f:Int→Option (Out R Int)} (xs:List α) (p:α→Prop) [DecidablePred p] (r:R) (hN:xs.length≤9223372036854775807)
  (h: ∀i:Nat,i<xs.length→f (i:Int)=some (if p (nth xs i) then .nxt ((i+1:Nat):Int) else .ret r)) (he:f (xs.length:Int)=some (.brk (xs.length:Int))) :
  (ai f aB 0=some (.brk (xs.length:Int))∧ ∀x∈xs,p x)∨(ai f aB 0=some (.ret r)∧ ¬ ∀x∈xs,p x):=by
 obtain ⟨o,e,hq⟩:=bF (f:=f) (fun i s=>s=(i:Int)∧ ∀j:Nat,j<i→p (nth xs j)) (fun o=>(o= .brk (xs.length:Int)∧ ∀x∈xs,p x)∨(o= .ret r∧ ¬ ∀x∈xs,p x)) xs.length (s:=0) (by
  rintro i s hi ⟨rfl,hp⟩
  by_cases hl:i<xs.length
  ·by_cases c:p (nth xs i)
   ·refine .inl ⟨hl,_,by rw[h i hl,if_pos c],rfl,fun j hj=>?_⟩
    by_cases e:j=i
    ·subst e;exact c
    ·exact hp j (by omega)
   ·refine .inr ⟨_,by rw[h i hl,if_neg c],(fun s' e=>by cases e),.inr ⟨rfl,fun hx=>c (hx _ (aX (by omega) (by omega)))⟩⟩
  ·obtain rfl:i=xs.length:=by omega
   refine .inr ⟨_,he,(fun s' e=>by cases e),.inl ⟨rfl,fun x hx=>?_⟩⟩
   obtain ⟨j,hj,rfl⟩:=A0 hx
   exact hp j hj) ⟨rfl,by omega⟩ (gp hN)
 rcases hq with ⟨rfl,hq⟩ | ⟨rfl,hq⟩
 ·exact .inl ⟨e,hq⟩
 ·exact .inr ⟨e,hq⟩
section
variable {a:AutT} {n:Nat} (V:VA a n)
include V
theorem VA.pos:0<n:=by have:=V.start;omega
theorem VA.rowAt {s:Int} (h0:0≤s) (h1:s<n):(nth a.2.2 s).length=9:=V.row _ (aX h0 (by rw[V.nlen];exact h1))
theorem VA.mv {s:Int} {k:Nat} (h0:0≤s) (h1:s<n) (hk:k<9): -1≤mv a s k∧mv a s k<n:=
 V.ent _ (aX h0 (by rw[V.nlen];exact h1)) _ (aX (by omega) (by rw[V.rowAt h0 h1];omega))
theorem VA.get {s:Int} (h0:0≤s) (h1:s<n):aw a.2.2 s=some (nth a.2.2 s):=aj h0 (by rw[V.nlen];exact h1)
theorem VA.get2 {s:Int} {k:Nat} (h0:0≤s) (h1:s<n) (hk:k<9):aw (nth a.2.2 s) (k:Int)=some (D.mv a s k):=aj (by omega) (by rw[V.rowAt h0 h1];omega)
theorem VA.acc {s:Int} (h0:0≤s) (h1:s<n):aw a.2.1 s=some (nth a.2.1 s):=aj h0 (by rw[V.len];exact h1)
theorem zR {s:Int} {k:Nat} (h0:0≤s) (h1:s<n) (hk:k<9):aO a s (k:Int)=some (mv a s k):=by
 unfold aO eS
 rw[if_neg (by simp;omega),EU];simp only[Option.bind_some]
 rw[if_pos (by simp;omega),V.get h0 h1];simp only[Option.bind_some]
 rw[V.get2 h0 h1 hk];rfl
end
end D
namespace D
open Go.RowKit
abbrev GrT:=(List Int)×(List (Int×Int×Int×Int))
theorem Iw {R:Type} {f:Int→Option (Out R Int)} (N:Nat) (p:Nat→Prop) [DecidablePred p] (r:R) (hN:N≤9223372036854775807)
  (h: ∀i:Nat,i<N→f (i:Int)=some (if p i then .nxt ((i+1:Nat):Int) else .ret r)) (he:f (N:Int)=some (.brk (N:Int))) :
  (ai f aB 0=some (.brk (N:Int))∧ ∀i,i<N→p i)∨(ai f aB 0=some (.ret r)∧ ¬ ∀i,i<N→p i):=by
 obtain ⟨o,e,hq⟩:=bF (f:=f) (fun i s=>s=(i:Int)∧ ∀j:Nat,j<i→p j) (fun o=>(o= .brk (N:Int)∧ ∀i,i<N→p i)∨(o= .ret r∧ ¬ ∀i,i<N→p i)) N (s:=0) (by
  rintro i s hi ⟨rfl,hp⟩
  by_cases hl:i<N
  ·by_cases c:p i
   ·refine .inl ⟨hl,_,by rw[h i hl,if_pos c],rfl,fun j hj=>?_⟩
    by_cases e:j=i
    ·subst e;exact c
    ·exact hp j (by omega)
   ·exact .inr ⟨_,by rw[h i hl,if_neg c],(fun s' e=>by cases e),.inr ⟨rfl,fun hx=>c (hx i hl)⟩⟩
  ·obtain rfl:i=N:=by omega
   exact .inr ⟨_,he,(fun s' e=>by cases e),.inl ⟨rfl,hp⟩⟩) ⟨rfl,by omega⟩ (gp hN)
 rcases hq with ⟨rfl,hq⟩ | ⟨rfl,hq⟩
 ·exact .inl ⟨e,hq⟩
 ·exact .inr ⟨e,hq⟩
structure GOk (g:GrT):Prop where
 n1:1≤g.1.length
 n5:g.1.length≤5
 m:g.2.length≤12
 val: ∀v∈g.1,0≤v∧v≤2
 edge: ∀e∈g.2,(0≤e.2.1∧e.2.1<g.1.length)∧(0≤e.2.2.1∧e.2.2.1<g.1.length)∧0≤e.2.2.2∧e.2.2.2≤2
 asc: ∀i:Nat,i+1<g.2.length→(nth g.2 i).1<(nth g.2 ((i+1:Nat):Int)).1
def edgeP (e:Int×Int×Int×Int) (n:Int):Prop:=(1≤e.1∧e.1≤99)∧(0≤e.2.1∧e.2.1≤n - 1)∧(0≤e.2.2.1∧e.2.2.1≤n - 1)∧0≤e.2.2.2∧e.2.2.2≤2
instance (e n):Decidable (edgeP e n):=by unfold edgeP;infer_instance
theorem Ux (e:Int×Int×Int×Int) {n:Nat} (hn:n≤1048576):nM e (n:Int)=some (decide (edgeP e n)):=by
 unfold nM edgeP
 simp only[EU,Option.bind_some,ju (show n≤9223372036854775807 by omega)]
 by_cases c1:1≤e.1∧e.1≤99 <;> by_cases c2:0≤e.2.1∧e.2.1≤(n:Int) - 1 <;> by_cases c3:0≤e.2.2.1∧e.2.2.1≤(n:Int) - 1 <;> simp[c1,c2,c3]
theorem Gz (g:GrT) (h1:g.1.length≤1048576) (h2:g.2.length≤1048576): ∃b,ay g=some b∧(b=true→GOk g):=by
 unfold ay
 have k0:=Iw (f:=dm g) g.1.length (fun i=>0≤nth g.1 i∧nth g.1 i≤2) false (by omega) (fun i hi=>by
  unfold dm
  rw[if_pos (by simp;omega),aj (by omega) (by omega)];simp only[Option.bind_some,EU,decide_eq_true_eq]
  split
  ·rw[aa (by omega)]
  ·rfl) (by unfold dm;rw[if_neg (by simp)])
 have k1:=Iw (f:=cx g) g.2.length (fun i=>edgeP (nth g.2 i) g.1.length∧(0<i→(nth g.2 ((i:Int) - 1)).1<(nth g.2 i).1)) false (by omega) (fun i hi=>by
  unfold cx
  rw[if_pos (by simp;omega),aj (by omega) (by omega)];simp only[Option.bind_some]
  have e1:=Ux (nth g.2 (i:Int)) h1
  have e1:nM ((nth g.2 (i:Int)).1,(nth g.2 (i:Int)).2.1,(nth g.2 (i:Int)).2.2.1,(nth g.2 (i:Int)).2.2.2) (g.1.length:Int)=_:=e1
  rw[e1];simp only[Option.bind_some,decide_eq_true_eq]
  by_cases c1:edgeP (nth g.2 (i:Int)) g.1.length
  ·rw[if_pos c1]
   by_cases c2:0<i
   ·rw[if_pos (by omega),ju (by omega),aj (by omega) (by omega)];simp only[Option.bind_some]
    by_cases c3:(nth g.2 ((i:Int) - 1)).1<(nth g.2 (i:Int)).1
    ·rw[if_neg (by omega),if_pos ⟨c1,fun _=>c3⟩,aa (by omega)]
    ·rw[if_pos (by omega),if_neg (fun h=>c3 (h.2 c2))]
   ·rw[if_neg (by omega),if_pos ⟨c1,fun h=>absurd h c2⟩,aa (by omega)]
  ·rw[if_neg c1,if_neg (fun h=>c1 h.1)]) (by unfold cx;rw[if_neg (by simp)])
 rcases k0 with ⟨k0,j0⟩ | ⟨k0,j0⟩
 ·rw[ae k0]
  rcases k1 with ⟨k1,j1⟩ | ⟨k1,j1⟩
  ·rw[ae k1,EU];simp only[Option.bind_some,decide_eq_true_eq]
   split
   ·rename_i c
    refine ⟨_,rfl,fun hb=>?_⟩
    have hb:=of_decide_eq_true hb
    refine ⟨by omega,by omega,by omega,fun v hv=>?_,fun e he=>?_,fun i hi=>?_⟩
    ·obtain ⟨i,hi,rfl⟩:=A0 hv
     exact j0 i hi
    ·obtain ⟨i,hi,rfl⟩:=A0 he
     obtain ⟨a1,a2,a3,a4⟩:=(j1 i hi).1
     exact ⟨⟨a2.1,by omega⟩,⟨a3.1,by omega⟩,a4⟩
    ·have:=(j1 (i+1) hi).2 (by omega)
     rwa [show (((i+1:Nat):Int) - 1)=(i:Int) from by omega] at this
   ·exact ⟨false,rfl,fun h=>by cases h⟩
  ·rw[aK k1];exact ⟨false,rfl,fun h=>by cases h⟩
 ·rw[aK k0];exact ⟨false,rfl,fun h=>by cases h⟩
theorem GOk.lt {g:GrT} (G:GOk g) {i j:Nat} (h:i<j) (hj:j<g.2.length):(nth g.2 (i:Int)).1<(nth g.2 (j:Int)).1:=by
 induction h with
 | refl=>exact G.asc i hj
 | step h ih =>
  rename_i m
  have h1:=ih (by omega)
  have h2:=G.asc m hj
  exact Int.lt_trans h1 h2
end D
namespace D
open Go.RowKit
theorem tC (m:Nat):BitVec.ofInt 64 (m:Int)=BitVec.ofNat 64 m:=by simp
theorem Lx {m n:Nat} (hm:m<2 ^ 62) (hn:n<2 ^ 62):pB (m:Int) (n:Int)=((m &&& n:Nat):Int):=by
 unfold pB
 rw[tC,tC,BitVec.toNat_and,BitVec.toNat_ofNat,BitVec.toNat_ofNat,Nat.mod_eq_of_lt (by omega),Nat.mod_eq_of_lt (by omega)]
 have:m &&& n≤m:=Nat.and_le_left
 exact bZ (by omega) (by omega)
theorem GB {m n:Nat} (hm:m<2 ^ 62) (hn:n<2 ^ 62):orI (m:Int) (n:Int)=((m ||| n:Nat):Int):=by
 unfold orI
 rw[tC,tC,BitVec.toNat_or,BitVec.toNat_ofNat,BitVec.toNat_ofNat,Nat.mod_eq_of_lt (by omega),Nat.mod_eq_of_lt (by omega)]
 have:m ||| n<2 ^ 62:=Nat.or_lt_two_pow hm hn
 exact bZ (by omega) (by omega)
theorem A9 {m i:Nat} (hi:i<64):lI (m:Int) (i:Int)=((m >>> i:Nat):Int):=by
 unfold lI
 rw[show min (i:Int).toNat 64=i from by simp;omega,Nat.shiftRight_eq_div_pow,Int.fdiv_eq_ediv_of_nonneg _ (by exact_mod_cast Nat.zero_le _)]
 simp
theorem qo {i:Nat} (hi:i<62):pA 1 (i:Int)=((2 ^ i:Nat):Int):=by
 unfold pA
 rw[show min (i:Int).toNat 64=i from by simp;omega,Int.one_mul]
 have:2 ^ i<2 ^ 62:=Nat.pow_lt_pow_right (by decide) hi
 rw[show ((2:Int) ^ i)=((2 ^ i:Nat):Int) from by simp]
 generalize 2 ^ i=z at this
 exact bZ (by omega) (by omega)
theorem uD {m i:Nat} (hm:m<2 ^ 62) (hi:i<64):((pB (lI (m:Int) (i:Int)) 1)==1)=m.testBit i:=by
 have h1:m >>> i<2 ^ 62:=Nat.lt_of_le_of_lt (by rw[Nat.shiftRight_eq_div_pow];exact Nat.div_le_self _ _) hm
 rw[A9 hi,show (1:Int)=((1:Nat):Int) from rfl,Lx h1 (by decide),Nat.testBit,Nat.and_comm]
 have e:m >>> i &&& 1=m >>> i % 2:=Nat.and_one_is_mod _
 rw[Nat.and_comm 1,e]
 rcases Nat.mod_two_eq_zero_or_one (m >>> i) with h | h <;> rw[h] <;> rfl
theorem GC {m i:Nat} (hm:m<2 ^ 62) (hi:i<64):((pB (lI (m:Int) (i:Int)) 1)==0)= !m.testBit i:=by
 have h1:m >>> i<2 ^ 62:=Nat.lt_of_le_of_lt (by rw[Nat.shiftRight_eq_div_pow];exact Nat.div_le_self _ _) hm
 rw[A9 hi,show (1:Int)=((1:Nat):Int) from rfl,Lx h1 (by decide),Nat.testBit,Nat.and_comm]
 have e:m >>> i &&& 1=m >>> i % 2:=Nat.and_one_is_mod _
 rw[Nat.and_comm 1,e]
 rcases Nat.mod_two_eq_zero_or_one (m >>> i) with h | h <;> rw[h] <;> rfl
def bJ (m k:Nat):List Int:=((List.range k).filter fun i=>m.testBit i).map fun (i:Nat)=>(i:Int)
theorem lH (m k:Nat):bJ m (k+1)=if m.testBit k then bJ m k++ [(k:Int)] else bJ m k:=by
 unfold bJ
 rw[List.range_succ,List.filter_append,List.map_append]
 by_cases h:m.testBit k=true
 ·simp[h]
 ·simp[h]
theorem re {m k l:Nat} (h:m<2 ^ k) (hl:k≤l):bJ m l=bJ m k:=by
 induction hl with
 | refl=>rfl
 | step hl ih =>
  rw[lH,Nat.testBit_lt_two_pow (Nat.lt_of_lt_of_le h (Nat.pow_le_pow_right (by decide) hl)),ih];rfl
theorem kS {m k:Nat} {x:Int} :x∈bJ m k↔ ∃i:Nat,i<k∧m.testBit i=true∧x=(i:Int):=by
 unfold bJ
 simp only[List.mem_map,List.mem_filter,List.mem_range]
 constructor
 ·rintro ⟨i,⟨h1,h2⟩,rfl⟩;exact ⟨i,h1,h2,rfl⟩
 ·rintro ⟨i,h1,h2,rfl⟩;exact ⟨i,⟨h1,h2⟩,rfl⟩
theorem il (m k:Nat):(bJ m k).length≤k:=by
 unfold bJ;rw[List.length_map];exact Nat.le_trans (List.length_filter_le _ _) (by simp)
theorem zS {m:Nat} : ∀ {k:Nat},(∀i,i<k→m.testBit i=false)→bJ m k= []
 | 0,_=>rfl
 | k+1,h=>by rw[lH,h k (by omega),zS fun i hi=>h i (by omega)];rfl
theorem C4 {s k:Nat} (h:s<k):bJ (2 ^ s) k= [(s:Int)]:=by
 rw[re (k:=s+1) (Nat.pow_lt_pow_right (by decide) (by omega)) h,lH,Nat.testBit_two_pow,zS fun i hi=>by rw[Nat.testBit_two_pow];simp;omega]
 simp
theorem nz (m i j:Nat):(m ||| 2 ^ i).testBit j=(m.testBit j || decide (i=j)):=by
 rw[Nat.testBit_or,Nat.testBit_two_pow]
theorem tD {m i k:Nat} (h:m<2 ^ k) (hi:i<k):m ||| 2 ^ i<2 ^ k:=Nat.or_lt_two_pow h (Nat.pow_lt_pow_right (by decide) hi)
theorem OQ {m i:Nat} (h:m >>> i=0):m<2 ^ i:=by
 rw[Nat.shiftRight_eq_div_pow] at h
 exact (Nat.div_eq_zero_iff_lt (Nat.two_pow_pos i)).1 h
theorem So {m n k:Nat} (hm:m<2 ^ k) (hn:n<2 ^ k) (h: ∀i,i<k→m.testBit i=n.testBit i):m=n:=by
 refine Nat.eq_of_testBit_eq fun i=>?_
 by_cases c:i<k
 ·exact h i c
 ·rw[Nat.testBit_lt_two_pow (Nat.lt_of_lt_of_le hm (Nat.pow_le_pow_right (by decide) (by omega))),Nat.testBit_lt_two_pow (Nat.lt_of_lt_of_le hn (Nat.pow_le_pow_right (by decide) (by omega)))]
end D
namespace D
open Go.RowKit
theorem p62 {n:Nat} (h:n≤30):2 ^ n≤2 ^ 62:=Nat.pow_le_pow_right (by decide) (by omega)
theorem jx {M:Nat} (hM:M<2 ^ 30):gj (M:Int)=some (bJ M 30):=by
 have h62:M<2 ^ 62:=Nat.lt_of_lt_of_le hM (p62 (by decide))
 obtain ⟨o,e,hq⟩:=bF (f:=nr (M:Int)) (fun i s=>s=(bJ M i,(i:Int))) (fun o=> ∃k,o= .brk (bJ M 30,k)) 30 (s:=([],0)) (by
  rintro i s hi rfl
  unfold nr
  have e0:chk ((0:Int)≤(i:Int))=some ():=by unfold chk;rw[if_pos (by omega)]
  simp only[e0,Option.bind_some]
  by_cases c:M >>> i=0
  ·refine .inr ⟨.brk (bJ M i,(i:Int)),?_,(fun s' e=>by cases e),(i:Int),by rw[re (OQ c) hi]⟩
   rw[A9 (by omega),c];rfl
  ·have hi':i<30:=by
    rcases Nat.lt_or_ge i 30 with h | h
    ·exact h
    ·exfalso;apply c
     rw[Nat.shiftRight_eq_div_pow]
     exact Nat.div_eq_of_lt (Nat.lt_of_lt_of_le hM (Nat.pow_le_pow_right (by decide) h))
   refine .inl ⟨hi',(bJ M (i+1),((i+1:Nat):Int)),?_,rfl⟩
   have c':((lI (M:Int) (i:Int)) !=0)=true:=by
    rw[A9 (by omega)]
    simp only[bne_iff_ne,ne_eq]
    omega
   rw[if_pos c',uD h62 (by omega),lH,aa (by omega)]
   by_cases b:M.testBit i=true
   ·rw[if_pos b,if_pos b,au (by have:=il M i;simp;omega)];rfl
   ·rw[if_neg b,if_neg b];rfl) rfl (by unfold aB;omega)
 obtain ⟨k,rfl⟩:=hq
 unfold gj
 exact ae e
def ClI (n:Nat) (i:Nat) (st:Int×Int):Prop:=(-1≤st.2∧st.2<n)∧ ∃(M:Nat) (L:List Int),st.1=(M:Int)∧M<2 ^ n∧L.length=i∧L.Nodup∧(∀x∈L,0≤x∧x<n)∧ ∀j:Nat,M.testBit j=true↔(j:Int)∈L
theorem Uy {n:Nat} {L:List Int} (h:L.Nodup) (k: ∀x∈L,0≤x∧x<n):L.length≤n:=by
 have:=h.length_le_of_subset (l₂:=(List.range n).map fun i:Nat=>(i:Int)) (fun x hx=>by
  obtain ⟨h0,h1⟩:=k x hx
  exact List.mem_map.2 ⟨x.toNat,List.mem_range.2 (by omega),by omega⟩)
 simpa using this
section
variable {a:AutT} {n:Nat} (V:VA a n) (hn:n≤12)
include V hn
theorem Sp {v:Int} (hv:0≤v∧v≤2) {i:Nat} {st:Int×Int} (h:ClI n i st) :
  (i<n∧ ∃st',cB a v st=some (.nxt st')∧ClI n (i+1) st')∨cB a v st=some (.brk st):=by
 obtain ⟨⟨h1,h2⟩,M,L,e1,hM,hl,hd,hr,hb⟩:=h
 obtain ⟨m,s⟩:=st
 obtain rfl:m=(M:Int):=e1
 have h62:M<2 ^ 62:=Nat.lt_of_lt_of_le hM (p62 (by omega))
 unfold cB
 by_cases c:s≥0
 ·obtain ⟨k,rfl⟩: ∃k:Nat,s=(k:Int):=⟨s.toNat,by omega⟩
  have hk:k<n:=by simp only at h2;omega
  have e0:chk ((0:Int)≤(k:Int))=some ():=by unfold chk;rw[if_pos (by omega)]
  simp only[e0,Option.bind_some]
  rw[if_pos (by simp),GC h62 (by omega)]
  by_cases b:M.testBit k=true
  ·right;rw[if_neg (by simp[b])]
  ·left
   have b':(k:Int)∉L:=fun hh=>b ((hb k).2 hh)
   have hle:=Uy (n:=n) (L:=(k:Int)::L) (List.nodup_cons.2 ⟨b',hd⟩) (fun x hx=>by
    rcases List.mem_cons.1 hx with rfl | hx
    ·omega
    ·exact hr x hx)
   simp only[List.length_cons] at hle
   obtain ⟨u,rfl⟩: ∃u:Nat,v=(u:Int):=⟨v.toNat,by omega⟩
   have hu:u≤2:=by omega
   have ew:IntKind.i64.wrap (6+(u:Int))=((6+u:Nat):Int):=by rw[bZ (by omega) (by omega)];omega
   refine ⟨by omega,(((M ||| 2 ^ k:Nat):Int),mv a (k:Int) (6+u)),?_,?_,M ||| 2 ^ k,(k:Int)::L,rfl,tD hM hk,by simp[hl],List.nodup_cons.2 ⟨b',hd⟩,?_,?_⟩
   ·rw[if_pos (by simp[b]),ew]
    have e2:=zR V (s:=(k:Int)) (k:=6+u) (by omega) (by omega) (by omega)
    have e2:aO (a.1,a.2.1,a.2.2) (k:Int) ((6+u:Nat):Int)=_:=e2
    rw[e2,qo (by omega),GB h62 (Nat.pow_lt_pow_right (by decide) (by omega))];rfl
   ·exact V.mv (by omega) (by omega) (by omega)
   ·intro x hx
    rcases List.mem_cons.1 hx with rfl | hx
    ·omega
    ·exact hr x hx
   ·intro j
    rw[nz,Bool.or_eq_true,hb j,List.mem_cons,decide_eq_true_eq]
    constructor
    ·rintro (h | h)
     ·exact .inr h
     ·left;omega
    ·rintro (h | h)
     ·right;omega
     ·exact .inl h
 ·right
  rw[if_neg (by simpa using c)]
theorem C5 {s v:Int} (hs:0≤s∧s<n) (hv:0≤v∧v≤2): ∃C:Nat,cW a s v=some (C:Int)∧C<2 ^ n:=by
 have h0:ClI n 0 (0,s):=⟨⟨by simp only;omega,hs.2⟩,0,[],rfl,Nat.two_pow_pos n,rfl,List.nodup_nil,by simp,by simp⟩
 obtain ⟨o,e,C,s',rfl,hC⟩:=bF (f:=cB a v) (ClI n) (fun o=> ∃(C:Nat) (s':Int),o= .brk ((C:Int),s')∧C<2 ^ n) n (s:=(0,s)) (fun i st hi h=>by
  rcases Sp V hn hv h with h' | h'
  ·exact .inl h'
  ·obtain ⟨_,M,L,e1,hM,_⟩:=h
   obtain ⟨m,s'⟩:=st
   obtain rfl:m=(M:Int):=e1
   exact .inr ⟨_,h',(fun s' e=>by cases e),M,s',rfl,hM⟩) h0 (by unfold aB;omega)
 exact ⟨C,by unfold cW;exact ae e,hC⟩
end
def cS (a:AutT) (s v:Int):Nat:=((cW a s v).getD 0).toNat
section
variable {a:AutT} {n:Nat} (V:VA a n) (hn:n≤12)
include V hn
theorem jy {s v:Int} (hs:0≤s∧s<n) (hv:0≤v∧v≤2):cW a s v=some (cS a s v:Int)∧cS a s v<2 ^ n:=by
 obtain ⟨C,e,h⟩:=C5 V hn hs hv
 unfold cS
 rw[e]
 exact ⟨rfl,by simpa using h⟩
end
def afS (a:AutT) (k:Nat) (C:Nat):Nat→Nat
 | 0=>0
 | q+1=>if C.testBit q=true∧0≤mv a (q:Int) k then afS a k C q ||| 2 ^ (mv a (q:Int) k).toNat else afS a k C q
def afL (a:AutT) (k:Nat) (l:List Int):Nat:=l.foldl (fun m t=>if 0≤mv a t k then m ||| 2 ^ (mv a t k).toNat else m) 0
theorem EV (a:AutT) (k C:Nat): ∀q,afL a k (bJ C q)=afS a k C q
 | 0=>rfl
 | q+1=>by
  rw[lH,afS]
  by_cases b:C.testBit q=true
  ·rw[if_pos b]
   unfold afL
   rw[List.foldl_append]
   have:=EV a k C q
   unfold afL at this
   rw[this]
   simp[b]
  ·rw[if_neg b,if_neg (fun h=>b h.1)]
   exact EV a k C q
section
variable {a:AutT} {n:Nat} (V:VA a n) (hn:n≤12)
include V
theorem Ly {k C:Nat} (hk:k<9): ∀q,q≤n→afS a k C q<2 ^ n
 | 0,_=>Nat.two_pow_pos n
 | q+1,hq=>by
  rw[afS]
  have:=Ly (C:=C) hk q (by omega)
  split
  ·rename_i c
   have:=(V.mv (s:=(q:Int)) (by omega) (by omega) hk).2
   exact tD (by assumption) (by omega)
  ·exact this
theorem Qj {k:Nat} (hk:k<9) {l:List Int} (h: ∀x∈l,0≤x∧x<n):afL a k l<2 ^ n:=by
 unfold afL
 have key: ∀(l:List Int) (m:Nat),(∀x∈l,0≤x∧x<n)→m<2 ^ n→l.foldl (fun m t=>if 0≤mv a t k then m ||| 2 ^ (mv a t k).toNat else m) m<2 ^ n:=by
  intro l
  induction l with
  | nil=>intro m _ h;exact h
  | cons x l ih =>
   intro m hx hm
   rw[List.foldl_cons]
   refine ih _ (fun y hy=>hx y (by simp[hy])) ?_
   split
   ·have:=(V.mv (hx x (by simp)).1 (hx x (by simp)).2 hk).2
    exact tD hm (by omega)
   ·exact hm
 exact key l 0 h (Nat.two_pow_pos n)
include hn
theorem lF {C:Nat} (hC:C<2 ^ n): ∀x∈bJ C 30,0≤x∧x<(n:Int):=by
 intro x hx
 obtain ⟨i,hi,hb,rfl⟩:=kS.1 hx
 refine ⟨by omega,?_⟩
 rcases Nat.lt_or_ge i n with h | h
 ·omega
 ·rw[Nat.testBit_lt_two_pow (Nat.lt_of_lt_of_le hC (Nat.pow_le_pow_right (by decide) h))] at hb;cases hb
theorem Ix {k:Nat} (hk:k<6) {l:List Int} (hl: ∀x∈l,0≤x∧x<n) (hlen:l.length≤30):ai (dK a (k:Int) l) aB (0,0)=some (.brk ((afL a k l:Int),(l.length:Int))):=by
 have:=ax (f:=dK a (k:Int) l) (fun i=>((afL a k (l.take i):Int),(i:Int))) l.length (fun i hi=>by
  unfold dK
  simp only
  have hx:=hl _ (aX (xs:=l) (i:=(i:Int)) (by omega) (by omega))
  rw[if_pos (by simp;omega),aj (by omega) (by omega)];simp only[Option.bind_some]
  have e2:=zR V (s:=nth l (i:Int)) (k:=k) hx.1 hx.2 (by omega)
  have e2:aO (a.1,a.2.1,a.2.2) (nth l (i:Int)) (k:Int)=_:=e2
  rw[e2,aa (by omega)];simp only[Option.bind_some]
  have et:l.take (i+1)=l.take i++ [nth l (i:Int)]:=by rw[List.take_add_one,bq hi];simp[hi]
  have ef:afL a k (l.take (i+1))=if 0≤mv a (nth l (i:Int)) k then afL a k (l.take i) ||| 2 ^ (mv a (nth l (i:Int)) k).toNat else afL a k (l.take i):=by
   rw[et];unfold afL;rw[List.foldl_append];rfl
  have hlt:=Qj V (k:=k) (by omega) (l:=l.take i) (fun x hx=>hl x (List.mem_of_mem_take hx))
  have hmv:=(V.mv (s:=nth l (i:Int)) (k:=k) hx.1 hx.2 (by omega)).2
  rw[ef]
  by_cases c:0≤mv a (nth l (i:Int)) k
  ·rw[if_pos (by simpa using c),if_pos c]
   obtain ⟨t,ht⟩: ∃t:Nat,mv a (nth l (i:Int)) k=(t:Int):=⟨_,(Int.toNat_of_nonneg c).symm⟩
   have e0:chk ((0:Int)≤mv a (nth l (i:Int)) k)=some ():=by unfold chk;rw[if_pos c]
   rw[e0,ht,qo (by omega),GB (Nat.lt_of_lt_of_le hlt (p62 (by omega))) (Nat.pow_lt_pow_right (by decide) (by omega))];rfl
  ·rw[if_neg (by simpa using c),if_neg c];rfl) (by unfold dK;simp) (gp (by omega))
 simpa [afL] using this
theorem Uz {s v:Int} {k:Nat} (hs:0≤s∧s<n) (hv:0≤v∧v≤2) (hk:k<6):gk a (pA 1 s) v (k:Int)=some (afL a k (bJ (cS a s v) 30):Int):=by
 obtain ⟨t,rfl⟩: ∃t:Nat,s=(t:Int):=⟨s.toNat,by omega⟩
 obtain ⟨e1,h1⟩:=jy V hn hs hv
 have hC:cS a (t:Int) v<2 ^ 30:=Nat.lt_of_lt_of_le h1 (Nat.pow_le_pow_right (by decide) (by omega))
 unfold gk
 rw[qo (by omega),jx (Nat.pow_lt_pow_right (by decide) (by omega)),C4 (by omega)];simp only[Option.bind_some]
 have h0:cQ a v (k:Int) [(t:Int)] (0,0)=some (.nxt ((afL a k (bJ (cS a (t:Int) v) 30):Int),1)):=by
  unfold cQ
  simp only
  rw[if_pos (by simp),show aw [(t:Int)] 0=some (t:Int) from rfl];simp only[Option.bind_some]
  have e1:cW (a.1,a.2.1,a.2.2) (t:Int) v=_:=e1
  rw[e1];simp only[Option.bind_some]
  rw[jx hC];simp only[Option.bind_some]
  rw[Ix V hn hk (lF V hn h1) (il _ _)]
  rfl
 have h1': ∀m:Int,cQ a v (k:Int) [(t:Int)] (m,1)=some (.brk (m,1)):=fun m=>by
  unfold cQ;rw[if_neg (by simp)]
 have:=ax (f:=cQ a v (k:Int) [(t:Int)]) (fun i=>if i=0 then (0,0) else ((afL a k (bJ (cS a (t:Int) v) 30):Int),1)) 1 (fun i hi=>by
  obtain rfl:i=0:=by omega
  exact h0) (h1' _) (by unfold aB;omega)
 have this:ai (cQ a v (k:Int) [(t:Int)]) aB (0,0)=some (.brk ((afL a k (bJ (cS a (t:Int) v) 30):Int),1)):=this
 rw[this];rfl
end
end D
namespace D
open Go.RowKit
theorem fp {p:Prop} [Decidable p] (h:p):chk p=some ():=by unfold chk;rw[if_pos h]
def rm {α:Type} (N:Nat) (F:Nat→α):List α:=(List.range N).map F
section
variable {α:Type} {N:Nat} {F G:Nat→α}
theorem dh:(rm N F).length=N:=by simp[rm]
theorem ep (h: ∀z,z<N→F z=G z):rm N F=rm N G:=by
 unfold rm
 exact List.map_congr_left fun z hz=>h z (List.mem_range.1 hz)
theorem mw {c:Nat} (h:c<N):aw (rm N F) (c:Int)=some (F c):=by
 rw[aq (by rw[dh];exact h)]
 simp[rm]
theorem C6 {c:Nat} {v:α} :(rm N F).set c v=rm N fun z=>if z=c then v else F z:=by
 refine List.ext_getElem (by simp[rm]) fun i h1 h2=>?_
 simp only[rm,List.getElem_set,List.getElem_map,List.getElem_range]
 by_cases e:c=i
 ·subst e;simp
 ·rw[if_neg e,if_neg (fun h=>e h.symm)]
theorem Ba {xs:List α} [Inhabited α] {k:Nat} (h:k<xs.length):xs.take (k+1)=xs.take k++ [nth xs (k:Int)]:=by
 rw[List.take_add_one,bq h];simp[h]
end
theorem Lz {α:Type} {b n:Nat} {z:α} (h:n*b≤140737488355328):mkI b (n:Int) z=some (rm n fun _=>z):=by
 have:rm n (fun _=>z)=List.replicate n z:=by
  unfold rm;exact List.ext_getElem (by simp) fun i h1 h2=>by simp
 rw[this,xS h]
abbrev EdT:=Int×Int×Int×Int
abbrev ArT:=(Int×Bool)×Int×Int
def fwd (e:EdT):ArT:=((e.1,false),2*e.2.2.2,e.2.2.1)
def inv (e:EdT):ArT:=((e.1,true),2*e.2.2.2+1,e.2.1)
def LA (e:EdT) (x:Int):List ArT:=(if e.2.1=x then [fwd e] else [])++(if e.2.2.1=x then [inv e] else [])
def im (es:List EdT) (x:Nat):List ArT:=es.flatMap fun e=>LA e x
theorem OR (e:EdT) (x:Int):(LA e x).length≤2:=by
 unfold LA;rw[List.length_append];split <;> split <;> simp
theorem my {α β:Type} {f:α→List β} {B:Nat} : ∀ {xs:List α},(∀x∈xs,(f x).length≤B)→(xs.flatMap f).length≤B*xs.length
 | [],_=>by simp
 | x::xs,h=>by
  rw[List.flatMap_cons,List.length_append,List.length_cons,Nat.mul_add]
  have:=h x (by simp)
  have:=my (xs:=xs) fun y hy=>h y (by simp[hy])
  omega
theorem ng (es:List EdT) (x:Nat):(im es x).length≤2*es.length:=my fun e _=>OR e x
theorem EW (e:EdT) (h:0≤e.2.2.2∧e.2.2.2≤2) (b:Bool):l8 e b=some (if b then 2*e.2.2.2+1 else 2*e.2.2.2):=by
 unfold l8
 rw[bZ (n:=2*e.2.2.2) (by omega) (by omega),bZ (by omega) (by omega)]
 cases b <;> rfl
theorem Qk {g:GrT} (G:GOk g):qS g=some (rm g.1.length (im g.2)):=by
 unfold qS
 rw[Lz (by have:=G.n5;omega)];simp only[Option.bind_some]
 have:=ax (f:=l9 g) (fun i=>((i:Int),rm g.1.length (im (g.2.take i)))) g.2.length (fun i hi=>by
  unfold l9
  simp only
  have hm:=G.m
  obtain ⟨⟨a1,a2⟩,⟨b1,b2⟩,c1⟩:=G.edge _ (aX (xs:=g.2) (i:=(i:Int)) (by omega) (by omega))
  rw[if_pos (by simp;omega),aj (by omega) (by omega)];simp only[Option.bind_some]
  generalize he:nth g.2 (i:Int)=e at a1 a2 b1 b2 c1
  obtain ⟨id,fr,to,lb⟩:=e
  obtain ⟨p,rfl⟩: ∃p:Nat,fr=(p:Int):=⟨fr.toNat,by simp only at a1;omega⟩
  obtain ⟨q,rfl⟩: ∃q:Nat,to=(q:Int):=⟨to.toNat,by simp only at b1;omega⟩
  simp only at a1 a2 b1 b2 c1
  have hp:p<g.1.length:=by omega
  have hq:q<g.1.length:=by omega
  have r1:=EW (id,(p:Int),(q:Int),lb) c1 false
  have r2:=EW (id,(p:Int),(q:Int),lb) c1 true
  have l1:=ng (g.2.take i) p
  have l2:=ng (g.2.take i) q
  have l3:(g.2.take i).length≤12:=by rw[List.length_take];omega
  simp only[mw hp,mw hq,Option.bind_some,r1,r2,Int.toNat_natCast,C6,Bool.false_eq_true,if_false,if_true]
  rw[au (by simp;omega)];simp only[Option.bind_some,C6]
  rw[fp (by rw[dh];omega),fp trivial];simp only[Option.bind_some]
  rw[au (by split <;> simp <;> omega)];simp only[Option.bind_some]
  rw[fp (by rw[dh];omega)];simp only[Option.bind_some]
  try rw[fp rfl];simp only[Option.bind_some]
  rw[aa (by omega)]
  congr 3
  refine ep fun z hz=>?_
  rw[Ba hi,he]
  unfold im
  rw[List.flatMap_append]
  simp only[List.flatMap_cons,List.flatMap_nil,List.append_nil,LA]
  by_cases e1:z=q
  ·subst e1
   by_cases e2:z=p
   ·subst e2;simp[fwd,inv]
   ·simp[e2,fwd,inv,show¬((p:Int)=(z:Int)) from by omega]
  ·by_cases e2:z=p
   ·subst e2;simp[e1,fwd,inv,show¬((q:Int)=(z:Int)) from by omega]
   ·simp[e1,e2,show¬((p:Int)=(z:Int)) from by omega,show¬((q:Int)=(z:Int)) from by omega]) (by unfold l9;simp) (gp (by have:=G.m;omega))
 have this:ai (l9 g) aB (0,rm g.1.length fun _=>[])=_:=this
 rw[this,List.take_length];rfl
end D
end Go.Proofs.YtcmpdlhbliolaaaGreat
