/- FnExactAuditMessages: for every input the law returns true and changes nothing that was there. Part 6 of 8. -/
import Derived.Test.YtakjhbbbjbebdaaGreatGC4
set_option linter.unusedVariables false
set_option linter.unusedSimpArgs false
set_option linter.unnecessarySimpa false
set_option linter.unusedSectionVars false
set_option maxRecDepth 1000000
namespace Go.Proofs.YtakjhbbbjbebdaaGreat
namespace R
open Go.RowKit
open D
abbrev y3:Ty:=.int .i64
abbrev xI:Ty:=.prod y3 (.prod y3 (.prod y3 y3))
abbrev t263:Ty:=.tree 294 263 xI
abbrev qd:Ty:=.prod y3 y3
abbrev XI:Ty:=.prod y3 y3
abbrev V8:Ty:=.sl 220 XI
abbrev Xa:Ty:=.prod V8 V8
abbrev y4:Ty:=.bool
abbrev Xb:Ty:=.prod y3 (.prod y4 Xa)
abbrev y89:Ty:=.sl 4 y4
abbrev y26:Ty:=.sl 3 y3
abbrev y90:Ty:=.sl 26 y26
abbrev Xc:Ty:=.prod y3 (.prod y89 y90)
abbrev XJ:Ty:=.prod y3 (.prod y3 (.prod y3 y3))
abbrev Xd:Ty:=.sl 232 XJ
abbrev Xe:Ty:=.wr Xd
abbrev Xf:Ty:=.prod y3 (.prod Xe y3)
abbrev Lr:Ty:=.sl 188 xI
abbrev sx:Ty:=.wr Lr
abbrev Gw:Ty:=.prod y3 (.prod sx y3)
abbrev NA:Ty:=.prod y3 (.prod y3 (.prod y3 y3))
abbrev XK:Ty:=.prod y3 (.prod y3 (.prod y3 y3))
abbrev Ur:Ty:=.prod y3 y4
abbrev V9:Ty:=.prod Ur (.prod y3 y3)
abbrev YD:Ty:=.sl 205 V9
abbrev y22:Ty:=.sl 133 Xc
abbrev Jr:Ty:=.prod y26 (.prod y3 (.prod y3 (.prod y26 y4)))
abbrev YE:Ty:=.sl 203 Ur
abbrev y23:Ty:=.sl 139 Xf
abbrev YF:Ty:=.prod Ur (.prod y3 y3)
abbrev XL:Ty:=.sl 240 YF
abbrev YG:Ty:=.sl 238 XL
abbrev Wa:Ty:=.int .u64
abbrev y25:Ty:=.prod y22 y23
abbrev YH:Ty:=.prod y4 (.prod y3 y3)
abbrev YI:Ty:=.prod y3 (.prod y3 y4)
abbrev XM:Ty:=.fro t263
abbrev y27:Ty:=.sl 156 XK
abbrev Wb:Ty:=.int .u32
abbrev Wc:Ty:=.int .u64
abbrev y29:Ty:=.prod y26 y27
abbrev Xg:Ty:=.sl 263 XM
abbrev YY:Ty:=.prod xI Xg
abbrev y32:Ty:=.sl 103 qd
abbrev y92:Ty:=.prod y3 (.prod y89 y90)
abbrev y35:Ty:=.sl 92 y92
abbrev y36:Ty:=.sl 146 Gw
abbrev y38:Ty:=.prod y35 y36
abbrev y40:Ty:=.sl 150 NA
abbrev y42:Ty:=.prod y26 y40
abbrev y51:Ty:=.sl 29 y29
abbrev y53:Ty:=.prod y3 y51
abbrev y58:Ty:=.prod y32 y32
abbrev y60:Ty:=.prod y3 (.prod y4 y58)
abbrev y64:Ty:=.sl 42 y42
abbrev y66:Ty:=.prod y3 y64
abbrev y75:Ty:=.sl 126 Xb
abbrev y78:Ty:=.sl 60 y60
theorem ti3:TI Tryz.prog 3 false 1:=⟨⟨_,Tryz.underlying3,rfl⟩,by kernel_rfl⟩
theorem Wd (a0:Int) (a1:Int) (b0:Int) (b1:Int) (w:World):EqT Tryz.prog 103 (.agg #[.int .i64 a0,.int .i64 a1]) (.agg #[.int .i64 b0,.int .i64 b1]) ((a0==b0)&&((a1==b1)&&true)) w:=RA w Tryz.underlying103 (by kernel_rfl) (by kernel_rfl) (rS rfl (ql ti3 rfl) (ql ti3 rfl) (run_equalIn_int w 9998 3 _ _ _ _ Tryz.underlying3) (rS rfl (ql ti3 rfl) (ql ti3 rfl) (run_equalIn_int w 9998 3 _ _ _ _ Tryz.underlying3) (LH w)))
theorem We (a0:Int) (a1:Int) (a2:Int) (a3:Int) (b0:Int) (b1:Int) (b2:Int) (b3:Int) (w:World):EqT Tryz.prog 188 (.agg #[.int .i64 a0,.int .i64 a1,.int .i64 a2,.int .i64 a3]) (.agg #[.int .i64 b0,.int .i64 b1,.int .i64 b2,.int .i64 b3]) ((a0==b0)&&((a1==b1)&&((a2==b2)&&((a3==b3)&&true)))) w:=RA w Tryz.underlying188 (by kernel_rfl) (by kernel_rfl) (rS rfl (ql ti3 rfl) (ql ti3 rfl) (run_equalIn_int w 9998 3 _ _ _ _ Tryz.underlying3) (rS rfl (ql ti3 rfl) (ql ti3 rfl) (run_equalIn_int w 9998 3 _ _ _ _ Tryz.underlying3) (rS rfl (ql ti3 rfl) (ql ti3 rfl) (run_equalIn_int w 9998 3 _ _ _ _ Tryz.underlying3) (rS rfl (ql ti3 rfl) (ql ti3 rfl) (run_equalIn_int w 9998 3 _ _ _ _ Tryz.underlying3) (LH w)))))
theorem mz3 (w:World):(zeroValue 3).run Tryz.prog w= .ok (.int .i64 0) w:=by kernel_rfl
theorem kk3:KeyOk Tryz.prog 3 (fun n:Int=>Value.int .i64 n) Tc iOk:=Vt Tryz.underlying3
theorem ek3:EltOk Tryz.prog 3 (fun n:Int=>Value.int .i64 n) Tc iOk 0:=Vu Tryz.underlying3 mz3
def tt:TT:=[(3,⟨false,1,none,y3,[],some 8,none,false,none,none,some (some .i64),false,none⟩),
 (4,⟨false,1,none,y4,[],some 1,none,true,none,none,none,false,none⟩),
 (22,⟨false,1,some 133,y22,[],some 24,none,false,none,none,none,false,none⟩),
 (23,⟨false,1,some 139,y23,[],some 24,none,false,none,none,none,false,none⟩),
 (25,⟨true,2,none,y25,[(0,0),(1,0)],some 48,some [(0,1),(1,1)],false,none,none,none,false,none⟩),
 (26,⟨false,1,some 3,y26,[],some 24,none,false,none,none,none,false,none⟩),
 (27,⟨false,1,some 156,y27,[],some 24,none,false,none,none,none,false,none⟩),
 (29,⟨true,2,none,y29,[(0,0),(1,0)],some 48,some [(0,1),(1,1)],false,none,none,none,false,none⟩),
 (32,⟨false,1,some 103,y32,[],some 24,none,false,none,none,none,false,none⟩),
 (35,⟨false,1,some 92,y35,[],some 24,none,false,none,none,none,false,none⟩),
 (36,⟨false,1,some 146,y36,[],some 24,none,false,none,none,none,false,none⟩),
 (38,⟨true,2,none,y38,[(0,0),(1,0)],some 48,some [(0,1),(1,1)],false,none,none,none,false,none⟩),
 (40,⟨false,1,some 150,y40,[],some 24,none,false,none,none,none,false,none⟩),
 (42,⟨true,2,none,y42,[(0,0),(1,0)],some 48,some [(0,1),(1,1)],false,none,none,none,false,none⟩),
 (51,⟨false,1,some 29,y51,[],some 24,none,false,none,none,none,false,none⟩),
 (53,⟨true,2,none,y53,[(0,0),(1,0)],some 32,some [(0,1),(1,1)],false,none,none,none,false,none⟩),
 (58,⟨true,2,none,y58,[(0,0),(1,0)],some 48,some [(0,1),(1,1)],false,none,none,none,false,none⟩),
 (60,⟨true,4,none,y60,[(0,0),(1,0),(2,1)],some 64,some [(0,1),(1,1),(2,2)],false,none,none,none,false,none⟩),
 (64,⟨false,1,some 42,y64,[],some 24,none,false,none,none,none,false,none⟩),
 (66,⟨true,2,none,y66,[(0,0),(1,0)],some 32,some [(0,1),(1,1)],false,none,none,none,false,none⟩),
 (75,⟨false,1,some 126,y75,[],some 24,none,false,none,none,none,false,none⟩),
 (78,⟨false,1,some 60,y78,[],some 24,none,false,none,none,none,false,none⟩),
 (89,⟨false,1,some 4,y89,[],some 24,none,false,none,none,none,false,none⟩),
 (90,⟨false,1,some 26,y90,[],some 24,none,false,none,none,none,false,none⟩),
 (92,⟨true,3,none,y92,[(0,0),(1,0),(2,0)],some 56,some [(0,1),(1,1),(2,1)],false,none,none,none,false,none⟩),
 (103,⟨true,2,none,qd,[(0,0),(1,0)],some 16,some [(0,1),(1,1)],false,some [some .i64,some .i64],none,none,false,none⟩),
 (106,⟨false,1,none,.bool,[],none,none,false,none,none,none,true,none⟩),
 (122,⟨false,1,some 220,V8,[],some 24,none,false,none,none,none,false,none⟩),
 (124,⟨true,2,none,Xa,[(0,0),(1,0)],some 48,some [(0,1),(1,1)],false,none,none,none,false,none⟩),
 (126,⟨true,4,none,Xb,[(0,0),(1,0),(2,1)],some 64,some [(0,1),(1,1),(2,2)],false,none,none,none,false,none⟩),
 (133,⟨true,3,none,Xc,[(0,0),(1,0),(2,0)],some 56,some [(0,1),(1,1),(2,1)],false,none,none,none,false,none⟩),
 (135,⟨false,1,some 232,Xd,[],some 24,none,false,none,none,none,false,none⟩),
 (137,⟨true,1,none,Xe,[(0,0)],some 24,some [(0,1)],false,none,none,none,false,none⟩),
 (139,⟨true,3,none,Xf,[(0,0),(1,0),(2,0)],some 40,some [(0,1),(1,1),(2,1)],false,none,none,none,false,none⟩),
 (142,⟨false,1,some 188,Lr,[],some 24,none,false,none,none,none,false,none⟩),
 (144,⟨true,1,none,sx,[(0,0)],some 24,some [(0,1)],false,none,none,none,false,none⟩),
 (146,⟨true,3,none,Gw,[(0,0),(1,0),(2,0)],some 40,some [(0,1),(1,1),(2,1)],false,none,none,none,false,none⟩),
 (150,⟨true,4,none,NA,[(0,0),(1,0),(2,0),(3,0)],some 32,some [(0,1),(1,1),(2,1),(3,1)],false,none,none,none,false,none⟩),
 (156,⟨true,4,none,XK,[(0,0),(1,0),(2,0),(3,0)],some 32,some [(0,1),(1,1),(2,1),(3,1)],false,none,none,none,false,none⟩),
 (159,⟨false,1,none,.bool,[],none,none,false,none,none,none,true,none⟩),
 (160,⟨false,1,none,.bool,[],none,none,false,none,none,none,true,none⟩),
 (176,⟨false,1,none,.bool,[],none,none,false,none,none,none,true,none⟩),
 (182,⟨false,1,none,.bool,[],none,none,false,none,none,none,true,none⟩),
 (188,⟨true,4,none,xI,[(0,0),(1,0),(2,0),(3,0)],some 32,some [(0,1),(1,1),(2,1),(3,1)],false,some [some .i64,some .i64,some .i64,some .i64],none,none,false,none⟩),
 (195,⟨false,1,none,.bool,[],none,none,false,none,none,none,true,none⟩),
 (200,⟨false,1,some 205,YD,[],some 24,none,false,none,none,none,false,none⟩),
 (203,⟨true,2,none,Ur,[(0,0),(1,0)],some 16,some [(0,1),(1,1)],false,none,none,none,false,none⟩),
 (205,⟨true,4,none,V9,[(0,1),(2,0),(3,0)],some 32,some [(0,2),(2,1),(3,1)],false,none,none,none,false,none⟩),
 (218,⟨false,1,none,.bool,[],none,none,false,none,none,none,true,none⟩),
 (220,⟨true,2,none,XI,[(0,0),(1,0)],some 16,some [(0,1),(1,1)],false,none,none,none,false,none⟩),
 (224,⟨true,5,none,Jr,[(0,0),(1,0),(2,0),(3,0),(4,0)],some 72,some [(0,1),(1,1),(2,1),(3,1),(4,1)],false,none,none,none,false,none⟩),
 (228,⟨false,1,some 203,YE,[],some 24,none,false,none,none,none,false,none⟩),
 (232,⟨true,4,none,XJ,[(0,0),(1,0),(2,0),(3,0)],some 32,some [(0,1),(1,1),(2,1),(3,1)],false,none,none,none,false,none⟩),
 (236,⟨false,1,some 238,YG,[],some 24,none,false,none,none,none,false,none⟩),
 (238,⟨false,1,some 240,XL,[],some 24,none,false,none,none,none,false,none⟩),
 (240,⟨true,4,none,YF,[(0,1),(2,0),(3,0)],some 32,some [(0,2),(2,1),(3,1)],false,none,none,none,false,none⟩),
 (244,⟨false,1,none,Wa,[],some 8,none,false,none,none,some (some .u64),false,none⟩),
 (252,⟨true,3,none,YH,[(0,0),(1,0),(2,0)],some 24,some [(0,1),(1,1),(2,1)],false,none,none,none,false,none⟩),
 (261,⟨true,3,none,YI,[(0,0),(1,0),(2,0)],some 24,some [(0,1),(1,1),(2,1)],false,none,none,none,false,none⟩),
 (263,⟨false,1,none,XM,[],some 8,none,false,none,none,none,false,some 294⟩),
 (266,⟨false,1,none,.bool,[],none,none,false,none,none,none,true,none⟩),
 (267,⟨false,1,none,.bool,[],none,none,false,none,none,none,true,none⟩),
 (281,⟨false,1,none,Wb,[],some 4,none,false,none,none,some (some .u32),false,none⟩),
 (283,⟨false,1,none,Wc,[],some 8,none,false,none,none,some (some .u64),false,none⟩),
 (292,⟨false,1,some 263,Xg,[],some 24,none,false,none,none,none,false,none⟩),
 (294,⟨true,5,none,YY,[(0,3),(4,0)],some 56,some [(0,4),(4,1)],false,none,none,none,false,none⟩),
 (298,⟨false,1,none,.bool,[],none,none,false,none,some ⟨3,3,.int,.int⟩,none,false,none⟩),
 (300,⟨false,1,none,.bool,[],none,none,false,none,none,none,true,none⟩),
 (333,⟨false,1,none,.bool,[],none,none,false,none,none,none,true,none⟩)]
theorem al:TTok Tryz.prog tt:=⟨zr (n:=1) (z:=.int .i64 0) ⟨⟨_,Tryz.underlying3,rfl⟩,by kernel_rfl⟩ rfl (by unfold TZ;kernel_rfl) rfl (Nat.le_of_ble_eq_true rfl) (fun h=>by cases h) (fun k h=>by obtain rfl:=Option.some.inj h;exact Tryz.underlying3),
 zr (n:=1) (z:=.bool false) ⟨⟨_,Tryz.underlying4,rfl⟩,by kernel_rfl⟩ rfl (by unfold TZ;kernel_rfl) rfl (Nat.le_of_ble_eq_true rfl) (fun h=>Tryz.underlying4) (fun k h=>by cases h),
 nL ⟨⟨_,Tryz.underlying22,rfl⟩,by kernel_rfl⟩ Tryz.underlying22 (by unfold TZ;kernel_rfl),
 nL ⟨⟨_,Tryz.underlying23,rfl⟩,by kernel_rfl⟩ Tryz.underlying23 (by unfold TZ;kernel_rfl),
 jL (z:=.agg #[.slice none 0 0,.slice none 0 0]) ⟨⟨_,Tryz.underlying25,rfl⟩,by kernel_rfl⟩ rfl ⟨⟨_,_,Tryz.underlying25,rfl,rfl,by kernel_rfl⟩,⟨_,_,Tryz.underlying25,rfl,rfl,by kernel_rfl⟩,trivial⟩ (by unfold TZ;kernel_rfl) rfl (Nat.le_of_ble_eq_true rfl) ⟨_,Tryz.underlying25,by kernel_rfl⟩ (fun ks h=>by cases h),
 nL ⟨⟨_,Tryz.underlying26,rfl⟩,by kernel_rfl⟩ Tryz.underlying26 (by unfold TZ;kernel_rfl),
 nL ⟨⟨_,Tryz.underlying27,rfl⟩,by kernel_rfl⟩ Tryz.underlying27 (by unfold TZ;kernel_rfl),
 jL (z:=.agg #[.slice none 0 0,.slice none 0 0]) ⟨⟨_,Tryz.underlying29,rfl⟩,by kernel_rfl⟩ rfl ⟨⟨_,_,Tryz.underlying29,rfl,rfl,by kernel_rfl⟩,⟨_,_,Tryz.underlying29,rfl,rfl,by kernel_rfl⟩,trivial⟩ (by unfold TZ;kernel_rfl) rfl (Nat.le_of_ble_eq_true rfl) ⟨_,Tryz.underlying29,by kernel_rfl⟩ (fun ks h=>by cases h),
 nL ⟨⟨_,Tryz.underlying32,rfl⟩,by kernel_rfl⟩ Tryz.underlying32 (by unfold TZ;kernel_rfl),
 nL ⟨⟨_,Tryz.underlying35,rfl⟩,by kernel_rfl⟩ Tryz.underlying35 (by unfold TZ;kernel_rfl),
 nL ⟨⟨_,Tryz.underlying36,rfl⟩,by kernel_rfl⟩ Tryz.underlying36 (by unfold TZ;kernel_rfl),
 jL (z:=.agg #[.slice none 0 0,.slice none 0 0]) ⟨⟨_,Tryz.underlying38,rfl⟩,by kernel_rfl⟩ rfl ⟨⟨_,_,Tryz.underlying38,rfl,rfl,by kernel_rfl⟩,⟨_,_,Tryz.underlying38,rfl,rfl,by kernel_rfl⟩,trivial⟩ (by unfold TZ;kernel_rfl) rfl (Nat.le_of_ble_eq_true rfl) ⟨_,Tryz.underlying38,by kernel_rfl⟩ (fun ks h=>by cases h),
 nL ⟨⟨_,Tryz.underlying40,rfl⟩,by kernel_rfl⟩ Tryz.underlying40 (by unfold TZ;kernel_rfl),
 jL (z:=.agg #[.slice none 0 0,.slice none 0 0]) ⟨⟨_,Tryz.underlying42,rfl⟩,by kernel_rfl⟩ rfl ⟨⟨_,_,Tryz.underlying42,rfl,rfl,by kernel_rfl⟩,⟨_,_,Tryz.underlying42,rfl,rfl,by kernel_rfl⟩,trivial⟩ (by unfold TZ;kernel_rfl) rfl (Nat.le_of_ble_eq_true rfl) ⟨_,Tryz.underlying42,by kernel_rfl⟩ (fun ks h=>by cases h),
 nL ⟨⟨_,Tryz.underlying51,rfl⟩,by kernel_rfl⟩ Tryz.underlying51 (by unfold TZ;kernel_rfl),
 jL (z:=.agg #[.int .i64 0,.slice none 0 0]) ⟨⟨_,Tryz.underlying53,rfl⟩,by kernel_rfl⟩ rfl ⟨⟨_,_,Tryz.underlying53,rfl,rfl,by kernel_rfl⟩,⟨_,_,Tryz.underlying53,rfl,rfl,by kernel_rfl⟩,trivial⟩ (by unfold TZ;kernel_rfl) rfl (Nat.le_of_ble_eq_true rfl) ⟨_,Tryz.underlying53,by kernel_rfl⟩ (fun ks h=>by cases h),
 jL (z:=.agg #[.slice none 0 0,.slice none 0 0]) ⟨⟨_,Tryz.underlying58,rfl⟩,by kernel_rfl⟩ rfl ⟨⟨_,_,Tryz.underlying58,rfl,rfl,by kernel_rfl⟩,⟨_,_,Tryz.underlying58,rfl,rfl,by kernel_rfl⟩,trivial⟩ (by unfold TZ;kernel_rfl) rfl (Nat.le_of_ble_eq_true rfl) ⟨_,Tryz.underlying58,by kernel_rfl⟩ (fun ks h=>by cases h),
 jL (z:=.agg #[.int .i64 0,.bool false,.slice none 0 0,.slice none 0 0]) ⟨⟨_,Tryz.underlying60,rfl⟩,by kernel_rfl⟩ rfl ⟨⟨_,_,Tryz.underlying60,rfl,rfl,by kernel_rfl⟩,⟨_,_,Tryz.underlying60,rfl,rfl,by kernel_rfl⟩,⟨_,_,Tryz.underlying60,rfl,rfl,by kernel_rfl⟩,trivial⟩ (by unfold TZ;kernel_rfl) rfl (Nat.le_of_ble_eq_true rfl) ⟨_,Tryz.underlying60,by kernel_rfl⟩ (fun ks h=>by cases h),
 nL ⟨⟨_,Tryz.underlying64,rfl⟩,by kernel_rfl⟩ Tryz.underlying64 (by unfold TZ;kernel_rfl),
 jL (z:=.agg #[.int .i64 0,.slice none 0 0]) ⟨⟨_,Tryz.underlying66,rfl⟩,by kernel_rfl⟩ rfl ⟨⟨_,_,Tryz.underlying66,rfl,rfl,by kernel_rfl⟩,⟨_,_,Tryz.underlying66,rfl,rfl,by kernel_rfl⟩,trivial⟩ (by unfold TZ;kernel_rfl) rfl (Nat.le_of_ble_eq_true rfl) ⟨_,Tryz.underlying66,by kernel_rfl⟩ (fun ks h=>by cases h),
 nL ⟨⟨_,Tryz.underlying75,rfl⟩,by kernel_rfl⟩ Tryz.underlying75 (by unfold TZ;kernel_rfl),
 nL ⟨⟨_,Tryz.underlying78,rfl⟩,by kernel_rfl⟩ Tryz.underlying78 (by unfold TZ;kernel_rfl),
 nL ⟨⟨_,Tryz.underlying89,rfl⟩,by kernel_rfl⟩ Tryz.underlying89 (by unfold TZ;kernel_rfl),
 nL ⟨⟨_,Tryz.underlying90,rfl⟩,by kernel_rfl⟩ Tryz.underlying90 (by unfold TZ;kernel_rfl),
 jL (z:=.agg #[.int .i64 0,.slice none 0 0,.slice none 0 0]) ⟨⟨_,Tryz.underlying92,rfl⟩,by kernel_rfl⟩ rfl ⟨⟨_,_,Tryz.underlying92,rfl,rfl,by kernel_rfl⟩,⟨_,_,Tryz.underlying92,rfl,rfl,by kernel_rfl⟩,⟨_,_,Tryz.underlying92,rfl,rfl,by kernel_rfl⟩,trivial⟩ (by unfold TZ;kernel_rfl) rfl (Nat.le_of_ble_eq_true rfl) ⟨_,Tryz.underlying92,by kernel_rfl⟩ (fun ks h=>by cases h),
 jL (z:=.agg #[.int .i64 0,.int .i64 0]) ⟨⟨_,Tryz.underlying103,rfl⟩,by kernel_rfl⟩ rfl ⟨⟨_,_,Tryz.underlying103,rfl,rfl,by kernel_rfl⟩,⟨_,_,Tryz.underlying103,rfl,rfl,by kernel_rfl⟩,trivial⟩ (by unfold TZ;kernel_rfl) rfl (Nat.le_of_ble_eq_true rfl) ⟨_,Tryz.underlying103,by kernel_rfl⟩ (fun ks h=>by obtain rfl:=Option.some.inj h;exact fun w a0 b0 a1 b1=>Wd a0 a1 b0 b1 w),
 zt (ty:=.bool) (b:=8) ⟨⟨_,Tryz.underlying106,rfl⟩,by kernel_rfl⟩ rfl (by unfold TZ;kernel_rfl),
 nL ⟨⟨_,Tryz.underlying122,rfl⟩,by kernel_rfl⟩ Tryz.underlying122 (by unfold TZ;kernel_rfl),
 jL (z:=.agg #[.slice none 0 0,.slice none 0 0]) ⟨⟨_,Tryz.underlying124,rfl⟩,by kernel_rfl⟩ rfl ⟨⟨_,_,Tryz.underlying124,rfl,rfl,by kernel_rfl⟩,⟨_,_,Tryz.underlying124,rfl,rfl,by kernel_rfl⟩,trivial⟩ (by unfold TZ;kernel_rfl) rfl (Nat.le_of_ble_eq_true rfl) ⟨_,Tryz.underlying124,by kernel_rfl⟩ (fun ks h=>by cases h),
 jL (z:=.agg #[.int .i64 0,.bool false,.slice none 0 0,.slice none 0 0]) ⟨⟨_,Tryz.underlying126,rfl⟩,by kernel_rfl⟩ rfl ⟨⟨_,_,Tryz.underlying126,rfl,rfl,by kernel_rfl⟩,⟨_,_,Tryz.underlying126,rfl,rfl,by kernel_rfl⟩,⟨_,_,Tryz.underlying126,rfl,rfl,by kernel_rfl⟩,trivial⟩ (by unfold TZ;kernel_rfl) rfl (Nat.le_of_ble_eq_true rfl) ⟨_,Tryz.underlying126,by kernel_rfl⟩ (fun ks h=>by cases h),
 jL (z:=.agg #[.int .i64 0,.slice none 0 0,.slice none 0 0]) ⟨⟨_,Tryz.underlying133,rfl⟩,by kernel_rfl⟩ rfl ⟨⟨_,_,Tryz.underlying133,rfl,rfl,by kernel_rfl⟩,⟨_,_,Tryz.underlying133,rfl,rfl,by kernel_rfl⟩,⟨_,_,Tryz.underlying133,rfl,rfl,by kernel_rfl⟩,trivial⟩ (by unfold TZ;kernel_rfl) rfl (Nat.le_of_ble_eq_true rfl) ⟨_,Tryz.underlying133,by kernel_rfl⟩ (fun ks h=>by cases h),
 nL ⟨⟨_,Tryz.underlying135,rfl⟩,by kernel_rfl⟩ Tryz.underlying135 (by unfold TZ;kernel_rfl),
 jL (z:=.agg #[.slice none 0 0]) ⟨⟨_,Tryz.underlying137,rfl⟩,by kernel_rfl⟩ rfl ⟨⟨_,_,Tryz.underlying137,rfl,rfl,by kernel_rfl⟩,trivial⟩ (by unfold TZ;kernel_rfl) rfl (Nat.le_of_ble_eq_true rfl) ⟨_,Tryz.underlying137,by kernel_rfl⟩ (fun ks h=>by cases h),
 jL (z:=.agg #[.int .i64 0,.slice none 0 0,.int .i64 0]) ⟨⟨_,Tryz.underlying139,rfl⟩,by kernel_rfl⟩ rfl ⟨⟨_,_,Tryz.underlying139,rfl,rfl,by kernel_rfl⟩,⟨_,_,Tryz.underlying139,rfl,rfl,by kernel_rfl⟩,⟨_,_,Tryz.underlying139,rfl,rfl,by kernel_rfl⟩,trivial⟩ (by unfold TZ;kernel_rfl) rfl (Nat.le_of_ble_eq_true rfl) ⟨_,Tryz.underlying139,by kernel_rfl⟩ (fun ks h=>by cases h),
 nL ⟨⟨_,Tryz.underlying142,rfl⟩,by kernel_rfl⟩ Tryz.underlying142 (by unfold TZ;kernel_rfl),
 jL (z:=.agg #[.slice none 0 0]) ⟨⟨_,Tryz.underlying144,rfl⟩,by kernel_rfl⟩ rfl ⟨⟨_,_,Tryz.underlying144,rfl,rfl,by kernel_rfl⟩,trivial⟩ (by unfold TZ;kernel_rfl) rfl (Nat.le_of_ble_eq_true rfl) ⟨_,Tryz.underlying144,by kernel_rfl⟩ (fun ks h=>by cases h),
 jL (z:=.agg #[.int .i64 0,.slice none 0 0,.int .i64 0]) ⟨⟨_,Tryz.underlying146,rfl⟩,by kernel_rfl⟩ rfl ⟨⟨_,_,Tryz.underlying146,rfl,rfl,by kernel_rfl⟩,⟨_,_,Tryz.underlying146,rfl,rfl,by kernel_rfl⟩,⟨_,_,Tryz.underlying146,rfl,rfl,by kernel_rfl⟩,trivial⟩ (by unfold TZ;kernel_rfl) rfl (Nat.le_of_ble_eq_true rfl) ⟨_,Tryz.underlying146,by kernel_rfl⟩ (fun ks h=>by cases h),
 jL (z:=.agg #[.int .i64 0,.int .i64 0,.int .i64 0,.int .i64 0]) ⟨⟨_,Tryz.underlying150,rfl⟩,by kernel_rfl⟩ rfl ⟨⟨_,_,Tryz.underlying150,rfl,rfl,by kernel_rfl⟩,⟨_,_,Tryz.underlying150,rfl,rfl,by kernel_rfl⟩,⟨_,_,Tryz.underlying150,rfl,rfl,by kernel_rfl⟩,⟨_,_,Tryz.underlying150,rfl,rfl,by kernel_rfl⟩,trivial⟩ (by unfold TZ;kernel_rfl) rfl (Nat.le_of_ble_eq_true rfl) ⟨_,Tryz.underlying150,by kernel_rfl⟩ (fun ks h=>by cases h),
 jL (z:=.agg #[.int .i64 0,.int .i64 0,.int .i64 0,.int .i64 0]) ⟨⟨_,Tryz.underlying156,rfl⟩,by kernel_rfl⟩ rfl ⟨⟨_,_,Tryz.underlying156,rfl,rfl,by kernel_rfl⟩,⟨_,_,Tryz.underlying156,rfl,rfl,by kernel_rfl⟩,⟨_,_,Tryz.underlying156,rfl,rfl,by kernel_rfl⟩,⟨_,_,Tryz.underlying156,rfl,rfl,by kernel_rfl⟩,trivial⟩ (by unfold TZ;kernel_rfl) rfl (Nat.le_of_ble_eq_true rfl) ⟨_,Tryz.underlying156,by kernel_rfl⟩ (fun ks h=>by cases h),
 zt (ty:=.bool) (b:=8) ⟨⟨_,Tryz.underlying159,rfl⟩,by kernel_rfl⟩ rfl (by unfold TZ;kernel_rfl),
 zt (ty:=.bool) (b:=8) ⟨⟨_,Tryz.underlying160,rfl⟩,by kernel_rfl⟩ rfl (by unfold TZ;kernel_rfl),
 zt (ty:=.bool) (b:=8) ⟨⟨_,Tryz.underlying176,rfl⟩,by kernel_rfl⟩ rfl (by unfold TZ;kernel_rfl),
 zt (ty:=.bool) (b:=8) ⟨⟨_,Tryz.underlying182,rfl⟩,by kernel_rfl⟩ rfl (by unfold TZ;kernel_rfl),
 jL (z:=.agg #[.int .i64 0,.int .i64 0,.int .i64 0,.int .i64 0]) ⟨⟨_,Tryz.underlying188,rfl⟩,by kernel_rfl⟩ rfl ⟨⟨_,_,Tryz.underlying188,rfl,rfl,by kernel_rfl⟩,⟨_,_,Tryz.underlying188,rfl,rfl,by kernel_rfl⟩,⟨_,_,Tryz.underlying188,rfl,rfl,by kernel_rfl⟩,⟨_,_,Tryz.underlying188,rfl,rfl,by kernel_rfl⟩,trivial⟩ (by unfold TZ;kernel_rfl) rfl (Nat.le_of_ble_eq_true rfl) ⟨_,Tryz.underlying188,by kernel_rfl⟩ (fun ks h=>by obtain rfl:=Option.some.inj h;exact fun w a0 b0 a1 b1 a2 b2 a3 b3=>We a0 a1 a2 a3 b0 b1 b2 b3 w),
 zt (ty:=.bool) (b:=8) ⟨⟨_,Tryz.underlying195,rfl⟩,by kernel_rfl⟩ rfl (by unfold TZ;kernel_rfl),
 nL ⟨⟨_,Tryz.underlying200,rfl⟩,by kernel_rfl⟩ Tryz.underlying200 (by unfold TZ;kernel_rfl),
 jL (z:=.agg #[.int .i64 0,.bool false]) ⟨⟨_,Tryz.underlying203,rfl⟩,by kernel_rfl⟩ rfl ⟨⟨_,_,Tryz.underlying203,rfl,rfl,by kernel_rfl⟩,⟨_,_,Tryz.underlying203,rfl,rfl,by kernel_rfl⟩,trivial⟩ (by unfold TZ;kernel_rfl) rfl (Nat.le_of_ble_eq_true rfl) ⟨_,Tryz.underlying203,by kernel_rfl⟩ (fun ks h=>by cases h),
 jL (z:=.agg #[.int .i64 0,.bool false,.int .i64 0,.int .i64 0]) ⟨⟨_,Tryz.underlying205,rfl⟩,by kernel_rfl⟩ rfl ⟨⟨_,_,Tryz.underlying205,rfl,rfl,by kernel_rfl⟩,⟨_,_,Tryz.underlying205,rfl,rfl,by kernel_rfl⟩,⟨_,_,Tryz.underlying205,rfl,rfl,by kernel_rfl⟩,trivial⟩ (by unfold TZ;kernel_rfl) rfl (Nat.le_of_ble_eq_true rfl) ⟨_,Tryz.underlying205,by kernel_rfl⟩ (fun ks h=>by cases h),
 zt (ty:=.bool) (b:=8) ⟨⟨_,Tryz.underlying218,rfl⟩,by kernel_rfl⟩ rfl (by unfold TZ;kernel_rfl),
 jL (z:=.agg #[.int .i64 0,.int .i64 0]) ⟨⟨_,Tryz.underlying220,rfl⟩,by kernel_rfl⟩ rfl ⟨⟨_,_,Tryz.underlying220,rfl,rfl,by kernel_rfl⟩,⟨_,_,Tryz.underlying220,rfl,rfl,by kernel_rfl⟩,trivial⟩ (by unfold TZ;kernel_rfl) rfl (Nat.le_of_ble_eq_true rfl) ⟨_,Tryz.underlying220,by kernel_rfl⟩ (fun ks h=>by cases h),
 jL (z:=.agg #[.slice none 0 0,.int .i64 0,.int .i64 0,.slice none 0 0,.bool false]) ⟨⟨_,Tryz.underlying224,rfl⟩,by kernel_rfl⟩ rfl ⟨⟨_,_,Tryz.underlying224,rfl,rfl,by kernel_rfl⟩,⟨_,_,Tryz.underlying224,rfl,rfl,by kernel_rfl⟩,⟨_,_,Tryz.underlying224,rfl,rfl,by kernel_rfl⟩,⟨_,_,Tryz.underlying224,rfl,rfl,by kernel_rfl⟩,⟨_,_,Tryz.underlying224,rfl,rfl,by kernel_rfl⟩,trivial⟩ (by unfold TZ;kernel_rfl) rfl (Nat.le_of_ble_eq_true rfl) ⟨_,Tryz.underlying224,by kernel_rfl⟩ (fun ks h=>by cases h),
 nL ⟨⟨_,Tryz.underlying228,rfl⟩,by kernel_rfl⟩ Tryz.underlying228 (by unfold TZ;kernel_rfl),
 jL (z:=.agg #[.int .i64 0,.int .i64 0,.int .i64 0,.int .i64 0]) ⟨⟨_,Tryz.underlying232,rfl⟩,by kernel_rfl⟩ rfl ⟨⟨_,_,Tryz.underlying232,rfl,rfl,by kernel_rfl⟩,⟨_,_,Tryz.underlying232,rfl,rfl,by kernel_rfl⟩,⟨_,_,Tryz.underlying232,rfl,rfl,by kernel_rfl⟩,⟨_,_,Tryz.underlying232,rfl,rfl,by kernel_rfl⟩,trivial⟩ (by unfold TZ;kernel_rfl) rfl (Nat.le_of_ble_eq_true rfl) ⟨_,Tryz.underlying232,by kernel_rfl⟩ (fun ks h=>by cases h),
 nL ⟨⟨_,Tryz.underlying236,rfl⟩,by kernel_rfl⟩ Tryz.underlying236 (by unfold TZ;kernel_rfl),
 nL ⟨⟨_,Tryz.underlying238,rfl⟩,by kernel_rfl⟩ Tryz.underlying238 (by unfold TZ;kernel_rfl),
 jL (z:=.agg #[.int .i64 0,.bool false,.int .i64 0,.int .i64 0]) ⟨⟨_,Tryz.underlying240,rfl⟩,by kernel_rfl⟩ rfl ⟨⟨_,_,Tryz.underlying240,rfl,rfl,by kernel_rfl⟩,⟨_,_,Tryz.underlying240,rfl,rfl,by kernel_rfl⟩,⟨_,_,Tryz.underlying240,rfl,rfl,by kernel_rfl⟩,trivial⟩ (by unfold TZ;kernel_rfl) rfl (Nat.le_of_ble_eq_true rfl) ⟨_,Tryz.underlying240,by kernel_rfl⟩ (fun ks h=>by cases h),
 zr (n:=1) (z:=.int .u64 0) ⟨⟨_,Tryz.underlying244,rfl⟩,by kernel_rfl⟩ rfl (by unfold TZ;kernel_rfl) rfl (Nat.le_of_ble_eq_true rfl) (fun h=>by cases h) (fun k h=>by obtain rfl:=Option.some.inj h;exact Tryz.underlying244),
 jL (z:=.agg #[.bool false,.int .i64 0,.int .i64 0]) ⟨⟨_,Tryz.underlying252,rfl⟩,by kernel_rfl⟩ rfl ⟨⟨_,_,Tryz.underlying252,rfl,rfl,by kernel_rfl⟩,⟨_,_,Tryz.underlying252,rfl,rfl,by kernel_rfl⟩,⟨_,_,Tryz.underlying252,rfl,rfl,by kernel_rfl⟩,trivial⟩ (by unfold TZ;kernel_rfl) rfl (Nat.le_of_ble_eq_true rfl) ⟨_,Tryz.underlying252,by kernel_rfl⟩ (fun ks h=>by cases h),
 jL (z:=.agg #[.int .i64 0,.int .i64 0,.bool false]) ⟨⟨_,Tryz.underlying261,rfl⟩,by kernel_rfl⟩ rfl ⟨⟨_,_,Tryz.underlying261,rfl,rfl,by kernel_rfl⟩,⟨_,_,Tryz.underlying261,rfl,rfl,by kernel_rfl⟩,⟨_,_,Tryz.underlying261,rfl,rfl,by kernel_rfl⟩,trivial⟩ (by unfold TZ;kernel_rfl) rfl (Nat.le_of_ble_eq_true rfl) ⟨_,Tryz.underlying261,by kernel_rfl⟩ (fun ks h=>by cases h),
 XH (e:=294) (E:=263) (u:=xI) ⟨⟨_,Tryz.underlying263,rfl⟩,by kernel_rfl⟩ Tryz.underlying263 (by unfold TZ;kernel_rfl),
 zt (ty:=.bool) (b:=8) ⟨⟨_,Tryz.underlying266,rfl⟩,by kernel_rfl⟩ rfl (by unfold TZ;kernel_rfl),
 zt (ty:=.bool) (b:=8) ⟨⟨_,Tryz.underlying267,rfl⟩,by kernel_rfl⟩ rfl (by unfold TZ;kernel_rfl),
 zr (n:=1) (z:=.int .u32 0) ⟨⟨_,Tryz.underlying281,rfl⟩,by kernel_rfl⟩ rfl (by unfold TZ;kernel_rfl) rfl (Nat.le_of_ble_eq_true rfl) (fun h=>by cases h) (fun k h=>by obtain rfl:=Option.some.inj h;exact Tryz.underlying281),
 zr (n:=1) (z:=.int .u64 0) ⟨⟨_,Tryz.underlying283,rfl⟩,by kernel_rfl⟩ rfl (by unfold TZ;kernel_rfl) rfl (Nat.le_of_ble_eq_true rfl) (fun h=>by cases h) (fun k h=>by obtain rfl:=Option.some.inj h;exact Tryz.underlying283),
 nL ⟨⟨_,Tryz.underlying292,rfl⟩,by kernel_rfl⟩ Tryz.underlying292 (by unfold TZ;kernel_rfl),
 jL (z:=.agg #[.int .i64 0,.int .i64 0,.int .i64 0,.int .i64 0,.slice none 0 0]) ⟨⟨_,Tryz.underlying294,rfl⟩,by kernel_rfl⟩ rfl ⟨⟨_,_,Tryz.underlying294,rfl,rfl,by kernel_rfl⟩,⟨_,_,Tryz.underlying294,rfl,rfl,by kernel_rfl⟩,trivial⟩ (by unfold TZ;kernel_rfl) rfl (Nat.le_of_ble_eq_true rfl) ⟨_,Tryz.underlying294,by kernel_rfl⟩ (fun ks h=>by cases h),
 XG (m:=⟨3,3,.int,.int⟩) (ty:=.bool) ⟨⟨_,Tryz.underlying298,rfl⟩,by kernel_rfl⟩ rfl ⟨Tryz.underlying298,kk3,ek3⟩,
 zt (ty:=.bool) (b:=8) ⟨⟨_,Tryz.underlying300,rfl⟩,by kernel_rfl⟩ rfl (by unfold TZ;kernel_rfl),
 zt (ty:=.bool) (b:=8) ⟨⟨_,Tryz.underlying333,rfl⟩,by kernel_rfl⟩ rfl (by unfold TZ;kernel_rfl),trivial⟩
theorem mixed:Tryz.prog.follows .mixedOrders=true:=by kernel_rfl
def zw:FS:=⟨[.rd y89,.rd y3],[y3],tJ,none⟩
def wo:FS:=⟨[.rd y26,.rd y3],[y3],sf,none⟩
def zx:FS:=⟨[.rd y90,.rd y3],[y3],tK,none⟩
def rk:FS:=⟨[.rd Xc,.rd y3],[y3],jM,none⟩
def qq:FS:=⟨[.rd y22,.rd y3],[y3],lY,none⟩
def xi:FS:=⟨[.rd Xd,.rd y3],[y3],rb,none⟩
def B6:FS:=⟨[.rd Xe,.rd y3],[y3],si,none⟩
def qu:FS:=⟨[.rd Xf,.rd y3],[y3],iR,none⟩
def oY:FS:=⟨[.rd y23,.rd y3],[y3],kA,none⟩
def sM:FS:=⟨[.rd y25,.rd y3],[y3],kT,none⟩
def zy:FS:=⟨[.rd y89],[y89],pM,none⟩
def wq:FS:=⟨[.rd y26],[y26],oR,none⟩
def zz:FS:=⟨[.rd y90],[y90],pN,none⟩
def rl:FS:=⟨[.rd Xc],[y92],jN,none⟩
def qv:FS:=⟨[.rd y22],[y35],iS,none⟩
def zA:FS:=⟨[.rd XJ],[xI],pO,none⟩
def xj:FS:=⟨[.rd Xd],[Lr],nR,none⟩
def B7:FS:=⟨[.rd Xe],[sx],sj,none⟩
def qw:FS:=⟨[.rd Xf],[Gw],iT,none⟩
def oZ:FS:=⟨[.rd y23],[y36],gV,none⟩
def sN:FS:=⟨[.rd y25],[y38],fT,none⟩
def zB:FS:=⟨[.rd y89,.rd y89],[y4],tL,none⟩
def wt:FS:=⟨[.rd y26,.rd y26],[y4],sk,none⟩
def zC:FS:=⟨[.rd y90,.rd y90],[y4],tM,none⟩
def rp:FS:=⟨[.rd y92,.rd y92],[y4],jP,none⟩
def qx:FS:=⟨[.rd y35,.rd y35],[y4],lZ,none⟩
def zD:FS:=⟨[.rd xI,.rd xI],[y4],pP,none⟩
def xk:FS:=⟨[.rd Lr,.rd Lr],[y4],re,none⟩
def B8:FS:=⟨[.rd sx,.rd sx],[y4],sn,none⟩
def qy:FS:=⟨[.rd Gw,.rd Gw],[y4],iU,none⟩
def o0:FS:=⟨[.rd y36,.rd y36],[y4],kB,none⟩
def sO:FS:=⟨[.rd y38,.rd y38],[y4],kY,none⟩
def zF:FS:=⟨[.rd y27,.rd y3],[y3],tN,none⟩
def zG:FS:=⟨[.rd y29,.rd y3],[y3],pQ,none⟩
def xl:FS:=⟨[.rd y51,.rd y3],[y3],rf,none⟩
def uU:FS:=⟨[.rd y53,.rd y3],[y3],mu,none⟩
def B9:FS:=⟨[.rd XK],[NA],so,none⟩
def zH:FS:=⟨[.rd y27],[y40],pR,none⟩
def zI:FS:=⟨[.rd y29],[y42],pS,none⟩
def xm:FS:=⟨[.rd y51],[y64],nS,none⟩
def uV:FS:=⟨[.rd y53],[y66],gW,none⟩
def Ca:FS:=⟨[.rd NA,.rd NA],[y4],sp,none⟩
def zJ:FS:=⟨[.rd y40,.rd y40],[y4],tO,none⟩
def zK:FS:=⟨[.rd y42,.rd y42],[y4],pT,none⟩
def xn:FS:=⟨[.rd y64,.rd y64],[y4],rh,none⟩
def uW:FS:=⟨[.rd y66,.rd y66],[y4],mw,none⟩
def zL:FS:=⟨[.rd V8,.rd y3],[y3],pU,none⟩
def zM:FS:=⟨[.rd Xa,.rd y3],[y3],pV,none⟩
def uX:FS:=⟨[.rd Xb,.rd y3],[y3],my,none⟩
def sP:FS:=⟨[.rd y75,.rd y3],[y3],oA,none⟩
def uY:FS:=⟨[.rd y38,.rd y3],[y3],mz,none⟩
def ka:FS:=⟨[.rd y3,.rd y3,.rd y3],[y4],ct,none⟩
def xp:FS:=⟨[.rd y3],[y4],nT,none⟩
def tR:FS:=⟨[.rd xI],[y3],mZ,none⟩
def Cb:FS:=⟨[.rd sx],[y4],sq,none⟩
def rq:FS:=⟨[.rd sx],[y4],jU,none⟩
def qe:FS:=⟨[.rd Lr],[y3],gr,none⟩
def qf (n:Nat):FS:=⟨[.rd Lr],[y3],dE n,none⟩
def wu:FS:=⟨[.rd Lr],[sx],kC,none⟩
def wv:FS:=⟨[.rd sx,.rd sx,.rd xI],[sx],kD,none⟩
def Cc:FS:=⟨[.rd y3],[sx],oS,none⟩
def nX (n:Nat):FS:=⟨[.rd sx,.rd y3,.rd y3],[sx],jo n,none⟩
def mG (n:Nat):FS:=⟨[.rd Lr],[sx],cv n,none⟩
def sQ:FS:=⟨[.rd sx],[sx,y4],k9,none⟩
def zN:FS:=⟨[.ptr 224 Jr,.rd y3,.rd y3],[],na,none⟩
def nY (n:Nat):FS:=⟨[.ptr 224 Jr,.rd Lr],[YH],cV n,none⟩
def nZ:FS:=⟨[.rd sx],[Jr,y4],ga,none⟩
def xq:FS:=⟨[.rd Jr,.rd y3,.rd y3],[y3],nU,none⟩
def tS:FS:=⟨[.rd y26,.rd y3],[y3],nc,none⟩
def sR:FS:=⟨[.rd Jr,.rd y3],[y4],lf,none⟩
def sS:FS:=⟨[.rd Jr,.rd y3],[y92,y4],iE,none⟩
def sU:FS:=⟨[],[y92],oC,none⟩
def uZ:FS:=⟨[.rd y92,.rd y26,.rd y89],[y92],gY,none⟩
def vc:FS:=⟨[.rd y26,.rd y26],[y3],nf,none⟩
def tT:FS:=⟨[.rd y92],[y89],kE,none⟩
def Cd:FS:=⟨[.rd y92,.rd y26,.rd y3],[y26],oT,none⟩
def sV:FS:=⟨[.rd y92],[y26],iH,none⟩
def rr:FS:=⟨[.rd y92],[y92],jV,none⟩
def ru:FS:=⟨[.rd sx],[y92,y4],gy,none⟩
def kL:FS:=⟨[.rd y92,.rd y92],[y4],fa,none⟩
def xr:FS:=⟨[.rd y35,.rd y92],[y3],lJ,none⟩
def xt:FS:=⟨[.rd y36],[y38,y4],nW,none⟩
def sW:FS:=⟨[.rd sx,.rd sx],[y4],lh,none⟩
def nr:FS:=⟨[.rd y38,.rd y38],[y4],fA,none⟩
def nt:FS:=⟨[.rd y38],[y4],fB,none⟩
def zO:FS:=⟨[.rd y92],[y92],pX,none⟩
def n9:FS:=⟨[.rd y38,.rd y3],[y92,y4],ed,none⟩
def Ce:FS:=⟨[.rd y42,.rd NA],[y4],B5,none⟩
def iY:FS:=⟨[.rd y42],[y4],bI,none⟩
def zP:FS:=⟨[.rd y92],[y4],nh,none⟩
def me:FS:=⟨[.rd y92],[y4],cy,none⟩
def zQ:FS:=⟨[.rd y42,.rd y92,.rd y3,.rd y3],[y4],jf,none⟩
def oF:FS:=⟨[.rd y92,.rd y3,.rd y3],[y3],eF,none⟩
def Cf:FS:=⟨[.rd y42,.rd y3],[YE],oU,none⟩
def vd:FS:=⟨[.rd y42,.rd y3],[y3],hY,none⟩
def ve:FS:=⟨[.rd NA,.rd y4],[y3],fC,none⟩
def Fq:FS:=⟨[.rd NA,.rd y4],[y3],ni,none⟩
def xu:FS:=⟨[.rd y42,.rd y92,.rd y3,.rd y3],[YD],jq,none⟩
def xw:FS:=⟨[.rd y42,.rd y92,.rd y3],[y26],lK,none⟩
def sX:FS:=⟨[.rd y42,.rd y92,.rd y3,.rd y3],[y4],iJ,none⟩
def Fs:FS:=⟨[.rd y3],[y26],uR,none⟩
def zR:FS:=⟨[.rd y42,.rd y92,.rd y3],[y26],nj,none⟩
def sY:FS:=⟨[.rd y42,.rd y92],[y32],iL,none⟩
def qz:FS:=⟨[.rd y38,.rd y42,.rd y3],[y32,y4],cC,none⟩
def kc:FS:=⟨[.rd y66],[y4],bR,none⟩
def o6:FS:=⟨[.rd y66],[y3],fc,none⟩
def Cg:FS:=⟨[.rd y42],[y42],oV,none⟩
def zS:FS:=⟨[.rd y66,.rd y3],[y42,y4],jg,none⟩
def tU:FS:=⟨[.rd qd,.rd qd],[y4],kI,none⟩
def oc:FS:=⟨[.rd y32],[y4],gG,none⟩
def sy:FS:=⟨[.rd y32,.rd qd],[y4],kJ,none⟩
def wx:FS:=⟨[.eat (.sl 103 qd),.rd qd],[y32],mO,none⟩
def o7:FS:=⟨[.rd y32,.rd y32],[y32],dw,none⟩
def zT:FS:=⟨[.rd y58],[y4],pY,none⟩
def sZ:FS:=⟨[.rd y32,.rd y32],[y32],fV,none⟩
def ta:FS:=⟨[.rd y32,.rd y58],[y32,y4],lp,none⟩
def qA:FS:=⟨[.rd y32,.rd y60],[y32,y4],fN,none⟩
def tc:FS:=⟨[.rd y32,.rd y32],[y4],iM,none⟩
def o8:FS:=⟨[.rd y66,.rd y38,.rd y3,.rd y3,.rd y78],[y4],ij,none⟩
def Ci:FS:=⟨[.rd XI],[qd],sr,none⟩
def zU:FS:=⟨[.rd V8],[y32],nl,none⟩
def zV:FS:=⟨[.rd Xa],[y58],pZ,none⟩
def vf:FS:=⟨[.rd Xb],[y60],mD,none⟩
def te:FS:=⟨[.rd y75],[y78],fW,none⟩
def cq:FS:=⟨[.rd y36,.fn [Gw] [y4]],[y3],bu,none⟩
def rv:FS:=⟨[.rd Gw,.cap 3 y3],[y4],jX,none⟩
def vh:FS:=⟨[.rd y38,.rd y3],[y3],mE,none⟩
def fj:FS:=⟨[.rd y3,.rd y3,.rd y3],[y4],bg,none⟩
def ry:FS:=⟨[.rd y3],[y4],jr,none⟩
def zW:FS:=⟨[.rd xI],[y4],p7,none⟩
def ba:FS:=⟨[.rd Xg],[Xg],fun _=>none,some (263,8)⟩
def sA:FS:=⟨[.rd sx],[t263],mP,none⟩
def Cj:FS:=⟨[.rd sx],[y4],ss,none⟩
def rz:FS:=⟨[.rd sx],[y4],jY,none⟩
def lC (n:Nat):FS:=⟨[.rd t263],[y3],bs n,none⟩
def Js:FS:=⟨[.rd y3],[t263],Dh,none⟩
def od (n:Nat):FS:=⟨[.eat t263,.rd y3,.rd y3],[t263],jt n,none⟩
def kd (n:Nat):FS:=⟨[.rd t263],[t263],aY n,none⟩
def iZ (n:Nat):FS:=⟨[.rd t263,.ptr 144 sx],[],aV n,none⟩
def vi:FS:=⟨[.rd t263],[sx],p9,none⟩
def tf:FS:=⟨[.rd sx],[sx,y4],lr,none⟩
def mf:FS:=⟨[.ptr 224 Jr,.rd y3,.rd y3],[],dj,none⟩
def fJ (n:Nat):FS:=⟨[.ptr 224 Jr,.rd t263],[YI],aZ n,none⟩
def oe:FS:=⟨[.rd sx],[Jr,y4],gb,none⟩
def l6:FS:=⟨[.rd y3,.rd y3,.fn [y3] [y4],.fn [y3,y3] [y3,y4]],[y92,y4],dW,none⟩
def lQ:FS:=⟨[.rd Jr,.rd y3],[y4],cZ,none⟩
def nv:FS:=⟨[.rd Jr,.rd y3,.rd y3],[y3],fD,none⟩
def o9:FS:=⟨[.rd y3,.rd y3,.cap 224 Jr],[y3,y4],cK,none⟩
def rA:FS:=⟨[.rd Jr,.rd y3],[y92,y4],gH,none⟩
def bh:FS:=⟨[.rd y89],[y89],fun _=>none,some (4,1)⟩
def oh:FS:=⟨[.rd y92],[y89],ep,none⟩
def dQ:FS:=⟨[.rd y90,.fn [y26] [y4]],[y3],bz,none⟩
def cF:FS:=⟨[.rd y26,.rd y26],[y4],bO,none⟩
def kq:FS:=⟨[.rd y26,.cap 26 y26],[y4],fY,none⟩
def mg:FS:=⟨[.rd y92,.rd y26],[y26,y3],dk,none⟩
def lR:FS:=⟨[.rd y92],[y26],c9,none⟩
def nw:FS:=⟨[.rd Wb,.rd Wb],[Wb,Wb],tP,none⟩
def ny:FS:=⟨[.rd Wc,.rd Wc],[Wc,Wc],nm,none⟩
def pa:FS:=⟨[.rd Wa,.rd Wa],[Wa,Wa],oW,none⟩
def dJ:FS:=⟨[.rd y26,.rd y3],[y26],bF,none⟩
def zX:FS:=⟨[],[y92],tQ,none⟩
def ix:FS:=⟨[.rd y26,.rd y3],[y3],dS,none⟩
def ju:FS:=⟨[.rd y3,.cap 26 y26],[y3],aL,none⟩
def jv:FS:=⟨[.rd y3,.cap 92 y92,.capf 300 [y3] [y3]],[y4],b7,none⟩
def gf:FS:=⟨[.rd y92,.rd y3,.rd y3],[y3],bc,none⟩
def jw:FS:=⟨[.rd y3,.rd y3,.cap 92 y92,.capf 300 [y3] [y3],.cap 26 y26],[y3,y4],b8,none⟩
def kt:FS:=⟨[.rd y92],[y92],dP,none⟩
def Ft:FS:=⟨[.rd y92],[y92,y4],zu,none⟩
def rB:FS:=⟨[.rd sx],[y92,y4],gJ,none⟩
def cD:FS:=⟨[.rd y35,.fn [y92] [y4]],[y3],aK,none⟩
def gg:FS:=⟨[.rd y89,.rd y89],[y4],dt,none⟩
def bU:FS:=⟨[.rd y90,.rd y90,.fn [y26,y26] [y4]],[y4],bd,none⟩
def nz:FS:=⟨[.rd y26,.rd y26],[y4],fE,none⟩
def kM:FS:=⟨[.rd y92,.rd y92],[y4],dz,none⟩
def xx:FS:=⟨[.rd y92,.cap 92 y92],[y4],lN,none⟩
def xy:FS:=⟨[.rd sx],[sx],lO,none⟩
def Ck:FS:=⟨[.rd y36],[y38,y4],su,none⟩
def a7:FS:=⟨[.rd y35,.rd y35,.fn [y92,y92] [y4]],[y4],aI,none⟩
def aX:FS:=⟨[.rd y36,.rd y36,.fn [Gw,Gw] [y4]],[y4],aH,none⟩
def fq:FS:=⟨[.rd Lr,.rd Lr],[y4],bS,none⟩
def tg:FS:=⟨[.rd sx,.rd sx],[y4],lu,none⟩
def qB:FS:=⟨[.rd Gw,.rd Gw],[y4],fO,none⟩
def nA:FS:=⟨[.rd y38,.rd y38],[y4],fF,none⟩
def nB:FS:=⟨[.rd y38],[y4],fG,none⟩
def oi:FS:=⟨[.rd y26],[y26],gK,none⟩
def pb:FS:=⟨[.rd y92],[y92],im,none⟩
def oj:FS:=⟨[.rd y38,.rd y3],[y92,y4],eu,none⟩
def Cl:FS:=⟨[.rd NA,.rd y3],[y4],oX,none⟩
def ja:FS:=⟨[.rd y42],[y4],aF,none⟩
def mi:FS:=⟨[.rd y92],[y4],bQ,none⟩
def wz:FS:=⟨[.rd y42,.rd y92,.rd y26],[y4],cA,none⟩
def Cm:FS:=⟨[.rd y90,.rd y26],[y26],sv,none⟩
def qg:FS:=⟨[.rd y3],[y26],gL,none⟩
def Fu:FS:=⟨[.rd NA,.rd y4],[y3],ri,none⟩
def Jt:FS:=⟨[.rd y42],[YG],uS,none⟩
def tV:FS:=⟨[.rd y92,.rd y3,.rd y3],[y3],eG,none⟩
def Fv:FS:=⟨[.rd y92,.rd y3,.rd y3,.rd y3],[y3],rj,none⟩
def qC:FS:=⟨[.rd y42,.rd y92],[y90],dX,none⟩
def pc:FS:=⟨[.rd y42,.rd y92,.rd y3],[y26],ff,some (0,7)⟩
def vj:FS:=⟨[.rd y92,.rd y3,.rd y3],[y4],j7,none⟩
def iP:FS:=⟨[.ow (.sl 3 y3)],[],eH,none⟩
def gh:FS:=⟨[.eat (.sl 3 y3)],[.sl 3 y3],cd,none⟩
def vk:FS:=⟨[.rd y26],[y26],j8,none⟩
def rC:FS:=⟨[.rd y42,.rd y92,.rd y3],[y26],gN,none⟩
def th:FS:=⟨[.rd y42,.rd y92],[y32],iN,none⟩
def qD:FS:=⟨[.rd y38,.rd y42,.rd y3],[y32,y4],dh,none⟩
def ke:FS:=⟨[.rd y66],[y4],aW,none⟩
def pd:FS:=⟨[.rd y66],[y3],dA,none⟩
def vl:FS:=⟨[.rd y42],[y42],iq,none⟩
def zY:FS:=⟨[.rd y66,.rd y3],[y42,y4],gO,none⟩
def vm:FS:=⟨[.rd y66,.rd y38,.rd y3,.rd y3],[y32,y4],fI,none⟩
def rD:FS:=⟨[.rd y3,.rd y3],[y3],j9,none⟩
def l7:FS:=⟨[.rd qd,.rd qd],[y3],fP,none⟩
def om:FS:=⟨[.rd y32],[y4],eA,none⟩
def qi:FS:=⟨[.rd y32],[y32],cT,none⟩
def cE:FS:=⟨[.rd y32,.fn [qd] [y4]],[y3],aR,none⟩
def eB:FS:=⟨[.eat (.sl 103 qd),.fn [qd] [y4]],[.sl 103 qd],bB,none⟩
def fl:FS:=⟨[.ow (.sl 103 qd),.fk 164],[],cO,none⟩
def fu:FS:=⟨[.eat (.sl 103 qd)],[.sl 103 qd],bT,none⟩
def tW:FS:=⟨[.rd y32],[y32],nq,none⟩
def gi:FS:=⟨[.rd y32,.rd qd],[y3],cg,none⟩
def cP:FS:=⟨[.rd y32,.rd qd],[y4],bq,none⟩
def nC:FS:=⟨[.rd qd,.cap 32 y32],[y4],jh,none⟩
def pe:FS:=⟨[.rd y32,.rd y32],[y32],fh,none⟩
def dK:FS:=⟨[.rd y32,.fn [qd] [y4]],[y4],bX,none⟩
def qF:FS:=⟨[.rd qd,.cap 32 y32],[y4],iX,none⟩
def oG:FS:=⟨[.rd y32,.rd y32],[y4],iO,none⟩
def zZ:FS:=⟨[.rd y58],[y4],qa,none⟩
def tj:FS:=⟨[.rd y32,.rd y32],[y32],lx,none⟩
def tk:FS:=⟨[.rd y32,.rd y58],[y32,y4],lz,none⟩
def qG:FS:=⟨[.rd y32,.rd y60],[y32,y4],fQ,none⟩
def gj:FS:=⟨[.rd y32,.rd y32],[y4],cj,none⟩
def tl:FS:=⟨[.rd y32,.rd y32],[y4],lA,none⟩
def pf:FS:=⟨[.rd y66,.rd y38,.rd y3,.rd y3,.rd y78],[y4],ir,none⟩
def Cn:FS:=⟨[.rd qd,.rd qd],[y4],sw,none⟩
def Aa:FS:=⟨[.rd y32,.rd y32],[y4],qb,none⟩
def Ab:FS:=⟨[.rd y58,.rd y58],[y4],qc,none⟩
def vn:FS:=⟨[.rd y60,.rd y60],[y4],mF,none⟩
def tm:FS:=⟨[.rd y78,.rd y78],[y4],oE,none⟩
def pg:FS:=⟨[.rd y53,.rd y25,.rd y3,.rd y3,.rd y75],[y4],de,none⟩
end R
namespace R
open Go.RowKit
open D
theorem Hs:FOk Tryz.prog 126 zw:=fok (V:=⟨tt,[],[],12,[]⟩) al trivial mixed Tryz.func126 rfl rfl (enters_of Tryz.func126 (by kernel_rfl) rfl) rfl (Nat.le_of_ble_eq_true rfl) rfl .no (fun d=>by kernel_rfl)
theorem Co:FOk Tryz.prog 45 wo:=fok (V:=⟨tt,[],[],12,[]⟩) al trivial mixed Tryz.func45 rfl rfl (enters_of Tryz.func45 (by kernel_rfl) rfl) rfl (Nat.le_of_ble_eq_true rfl) rfl .no (fun d=>by kernel_rfl)
theorem Ht:FOk Tryz.prog 127 zx:=fok (V:=⟨tt,[(45,wo)],[],27,[]⟩) al ⟨Co,trivial⟩ mixed Tryz.func127 rfl rfl (enters_of Tryz.func127 (by kernel_rfl) rfl) rfl (Nat.le_of_ble_eq_true rfl) rfl (.two .no (.two .no (.two .no (.two (.two .no (.loop [.slot 1 (.num .i64),.slot 5 (.num .i64)] .no)) .no)))) (fun d=>by kernel_rfl)
theorem Ac:FOk Tryz.prog 87 rk:=fok (V:=⟨tt,[(126,zw),(127,zx)],[],18,[]⟩) al ⟨Hs,Ht,trivial⟩ mixed Tryz.func87 rfl rfl (enters_of Tryz.func87 (by kernel_rfl) rfl) rfl (Nat.le_of_ble_eq_true rfl) rfl .no (fun d=>by kernel_rfl)
theorem xJ:FOk Tryz.prog 43 qq:=fok (V:=⟨tt,[(87,rk)],[],27,[]⟩) al ⟨Ac,trivial⟩ mixed Tryz.func43 rfl rfl (enters_of Tryz.func43 (by kernel_rfl) rfl) rfl (Nat.le_of_ble_eq_true rfl) rfl (.two .no (.two .no (.two .no (.two (.two .no (.loop [.slot 1 (.num .i64),.slot 5 (.num .i64)] .no)) .no)))) (fun d=>by kernel_rfl)
theorem Fw:FOk Tryz.prog 165 xi:=fok (V:=⟨tt,[],[],12,[]⟩) al trivial mixed Tryz.func165 rfl rfl (enters_of Tryz.func165 (by kernel_rfl) rfl) rfl (Nat.le_of_ble_eq_true rfl) rfl .no (fun d=>by kernel_rfl)
theorem KF:FOk Tryz.prog 128 B6:=fok (V:=⟨tt,[(165,xi)],[],12,[]⟩) al ⟨Fw,trivial⟩ mixed Tryz.func128 rfl rfl (enters_of Tryz.func128 (by kernel_rfl) rfl) rfl (Nat.le_of_ble_eq_true rfl) rfl .no (fun d=>by kernel_rfl)
theorem xK:FOk Tryz.prog 88 qu:=fok (V:=⟨tt,[(128,B6)],[],12,[]⟩) al ⟨KF,trivial⟩ mixed Tryz.func88 rfl rfl (enters_of Tryz.func88 (by kernel_rfl) rfl) rfl (Nat.le_of_ble_eq_true rfl) rfl .no (fun d=>by kernel_rfl)
theorem wA:FOk Tryz.prog 44 oY:=fok (V:=⟨tt,[(88,qu)],[],27,[]⟩) al ⟨xK,trivial⟩ mixed Tryz.func44 rfl rfl (enters_of Tryz.func44 (by kernel_rfl) rfl) rfl (Nat.le_of_ble_eq_true rfl) rfl (.two .no (.two .no (.two .no (.two (.two .no (.loop [.slot 1 (.num .i64),.slot 5 (.num .i64)] .no)) .no)))) (fun d=>by kernel_rfl)
theorem A9:FOk Tryz.prog 8 sM:=fok (V:=⟨tt,[(43,qq),(44,oY)],[],18,[]⟩) al ⟨xJ,wA,trivial⟩ mixed Tryz.func8 rfl rfl (enters_of Tryz.func8 (by kernel_rfl) rfl) rfl (Nat.le_of_ble_eq_true rfl) rfl .no (fun d=>by kernel_rfl)
theorem Hu:FOk Tryz.prog 135 zy:=fok (V:=⟨tt,[],[],22,[]⟩) al trivial mixed Tryz.func135 rfl rfl (enters_of Tryz.func135 (by kernel_rfl) rfl) rfl (Nat.le_of_ble_eq_true rfl) rfl (.two .no (.two .no (.two (.two .no (.loop [.row 3 4 y4,.slot 4 (.num .i64)] .no)) .no))) (fun d=>by kernel_rfl)
theorem Cp:FOk Tryz.prog 52 wq:=fok (V:=⟨tt,[],[],22,[]⟩) al trivial mixed Tryz.func52 rfl rfl (enters_of Tryz.func52 (by kernel_rfl) rfl) rfl (Nat.le_of_ble_eq_true rfl) rfl (.two .no (.two .no (.two (.two .no (.loop [.row 3 3 y3,.slot 4 (.num .i64)] .no)) .no))) (fun d=>by kernel_rfl)
theorem Hv:FOk Tryz.prog 136 zz:=fok (V:=⟨tt,[(52,wq)],[],23,[]⟩) al ⟨Cp,trivial⟩ mixed Tryz.func136 rfl rfl (enters_of Tryz.func136 (by kernel_rfl) rfl) rfl (Nat.le_of_ble_eq_true rfl) rfl (.two .no (.two .no (.two (.two .no (.loop [.row 3 26 y26,.slot 4 (.num .i64)] .no)) .no))) (fun d=>by kernel_rfl)
theorem Ad:FOk Tryz.prog 96 rl:=fok (V:=⟨tt,[(135,zy),(136,zz)],[],16,[]⟩) al ⟨Hu,Hv,trivial⟩ mixed Tryz.func96 rfl rfl (enters_of Tryz.func96 (by kernel_rfl) rfl) rfl (Nat.le_of_ble_eq_true rfl) rfl .no (fun d=>by kernel_rfl)
theorem xL:FOk Tryz.prog 50 qv:=fok (V:=⟨tt,[(96,rl)],[],23,[]⟩) al ⟨Ad,trivial⟩ mixed Tryz.func50 rfl rfl (enters_of Tryz.func50 (by kernel_rfl) rfl) rfl (Nat.le_of_ble_eq_true rfl) rfl (.two .no (.two .no (.two (.two .no (.loop [.row 3 92 y92,.slot 4 (.num .i64)] .no)) .no))) (fun d=>by kernel_rfl)
theorem Hw:FOk Tryz.prog 206 zA:=fok (V:=⟨tt,[],[],17,[]⟩) al trivial mixed Tryz.func206 rfl rfl (enters_of Tryz.func206 (by kernel_rfl) rfl) rfl (Nat.le_of_ble_eq_true rfl) rfl .no (fun d=>by kernel_rfl)
theorem Fx:FOk Tryz.prog 174 xj:=fok (V:=⟨tt,[(206,zA)],[],23,[]⟩) al ⟨Hw,trivial⟩ mixed Tryz.func174 rfl rfl (enters_of Tryz.func174 (by kernel_rfl) rfl) rfl (Nat.le_of_ble_eq_true rfl) rfl (.two .no (.two .no (.two (.two .no (.loop [.row 3 188 xI,.slot 4 (.num .i64)] .no)) .no))) (fun d=>by kernel_rfl)
end R
namespace R
open Go.RowKit
open D
theorem KG:FOk Tryz.prog 137 B7:=fok (V:=⟨tt,[(174,xj)],[],9,[]⟩) al ⟨Fx,trivial⟩ mixed Tryz.func137 rfl rfl (enters_of Tryz.func137 (by kernel_rfl) rfl) rfl (Nat.le_of_ble_eq_true rfl) rfl .no (fun d=>by kernel_rfl)
theorem xM:FOk Tryz.prog 97 qw:=fok (V:=⟨tt,[(137,B7)],[],15,[]⟩) al ⟨KG,trivial⟩ mixed Tryz.func97 rfl rfl (enters_of Tryz.func97 (by kernel_rfl) rfl) rfl (Nat.le_of_ble_eq_true rfl) rfl .no (fun d=>by kernel_rfl)
theorem wB:FOk Tryz.prog 51 oZ:=fok (V:=⟨tt,[(97,qw)],[],23,[]⟩) al ⟨xM,trivial⟩ mixed Tryz.func51 rfl rfl (enters_of Tryz.func51 (by kernel_rfl) rfl) rfl (Nat.le_of_ble_eq_true rfl) rfl (.two .no (.two .no (.two (.two .no (.loop [.row 3 146 Gw,.slot 4 (.num .i64)] .no)) .no))) (fun d=>by kernel_rfl)
theorem Ba:FOk Tryz.prog 11 sN:=fok (V:=⟨tt,[(50,qv),(51,oZ)],[],13,[]⟩) al ⟨xL,wB,trivial⟩ mixed Tryz.func11 rfl rfl (enters_of Tryz.func11 (by kernel_rfl) rfl) rfl (Nat.le_of_ble_eq_true rfl) rfl .no (fun d=>by kernel_rfl)
theorem Hx:FOk Tryz.prog 147 zB:=fok (V:=⟨tt,[],[],26,[]⟩) al trivial mixed Tryz.func147 rfl rfl (enters_of Tryz.func147 (by kernel_rfl) rfl) rfl (Nat.le_of_ble_eq_true rfl) rfl (.two .no (.two .no (.two (.two .no (.loop [.slot 5 (.num .i64)] .no)) .no))) (fun d=>by kernel_rfl)
theorem Cq:FOk Tryz.prog 60 wt:=fok (V:=⟨tt,[],[],26,[]⟩) al trivial mixed Tryz.func60 rfl rfl (enters_of Tryz.func60 (by kernel_rfl) rfl) rfl (Nat.le_of_ble_eq_true rfl) rfl (.two .no (.two .no (.two (.two .no (.loop [.slot 5 (.num .i64)] .no)) .no))) (fun d=>by kernel_rfl)
theorem Hy:FOk Tryz.prog 148 zC:=fok (V:=⟨tt,[(60,wt)],[],27,[]⟩) al ⟨Cq,trivial⟩ mixed Tryz.func148 rfl rfl (enters_of Tryz.func148 (by kernel_rfl) rfl) rfl (Nat.le_of_ble_eq_true rfl) rfl (.two .no (.two .no (.two (.two .no (.loop [.slot 5 (.num .i64)] .no)) .no))) (fun d=>by kernel_rfl)
theorem Ae:FOk Tryz.prog 106 rp:=fok (V:=⟨tt,[(147,zB),(148,zC)],[],22,[]⟩) al ⟨Hx,Hy,trivial⟩ mixed Tryz.func106 rfl rfl (enters_of Tryz.func106 (by kernel_rfl) rfl) rfl (Nat.le_of_ble_eq_true rfl) rfl .no (fun d=>by kernel_rfl)
theorem xN:FOk Tryz.prog 58 qx:=fok (V:=⟨tt,[(106,rp)],[],27,[]⟩) al ⟨Ae,trivial⟩ mixed Tryz.func58 rfl rfl (enters_of Tryz.func58 (by kernel_rfl) rfl) rfl (Nat.le_of_ble_eq_true rfl) rfl (.two .no (.two .no (.two (.two .no (.loop [.slot 5 (.num .i64)] .no)) .no))) (fun d=>by kernel_rfl)
theorem Hz:FOk Tryz.prog 220 zD:=fok (V:=⟨tt,[],[],25,[]⟩) al trivial mixed Tryz.func220 rfl rfl (enters_of Tryz.func220 (by kernel_rfl) rfl) rfl (Nat.le_of_ble_eq_true rfl) rfl .no (fun d=>by kernel_rfl)
theorem Fy:FOk Tryz.prog 189 xk:=fok (V:=⟨tt,[(220,zD)],[],27,[]⟩) al ⟨Hz,trivial⟩ mixed Tryz.func189 rfl rfl (enters_of Tryz.func189 (by kernel_rfl) rfl) rfl (Nat.le_of_ble_eq_true rfl) rfl (.two .no (.two .no (.two (.two .no (.loop [.slot 5 (.num .i64)] .no)) .no))) (fun d=>by kernel_rfl)
theorem KH:FOk Tryz.prog 149 B8:=fok (V:=⟨tt,[(189,xk)],[],11,[]⟩) al ⟨Fy,trivial⟩ mixed Tryz.func149 rfl rfl (enters_of Tryz.func149 (by kernel_rfl) rfl) rfl (Nat.le_of_ble_eq_true rfl) rfl .no (fun d=>by kernel_rfl)
theorem xO:FOk Tryz.prog 107 qy:=fok (V:=⟨tt,[(149,B8)],[],21,[]⟩) al ⟨KH,trivial⟩ mixed Tryz.func107 rfl rfl (enters_of Tryz.func107 (by kernel_rfl) rfl) rfl (Nat.le_of_ble_eq_true rfl) rfl .no (fun d=>by kernel_rfl)
theorem wC:FOk Tryz.prog 59 o0:=fok (V:=⟨tt,[(107,qy)],[],27,[]⟩) al ⟨xO,trivial⟩ mixed Tryz.func59 rfl rfl (enters_of Tryz.func59 (by kernel_rfl) rfl) rfl (Nat.le_of_ble_eq_true rfl) rfl (.two .no (.two .no (.two (.two .no (.loop [.slot 5 (.num .i64)] .no)) .no))) (fun d=>by kernel_rfl)
theorem Bb:FOk Tryz.prog 15 sO:=fok (V:=⟨tt,[(58,qx),(59,o0)],[],17,[]⟩) al ⟨xN,wC,trivial⟩ mixed Tryz.func15 rfl rfl (enters_of Tryz.func15 (by kernel_rfl) rfl) rfl (Nat.le_of_ble_eq_true rfl) rfl .no (fun d=>by kernel_rfl)
theorem HA:FOk Tryz.prog 46 zF:=fok (V:=⟨tt,[],[],12,[]⟩) al trivial mixed Tryz.func46 rfl rfl (enters_of Tryz.func46 (by kernel_rfl) rfl) rfl (Nat.le_of_ble_eq_true rfl) rfl .no (fun d=>by kernel_rfl)
theorem HB:FOk Tryz.prog 9 zG:=fok (V:=⟨tt,[(45,wo),(46,zF)],[],18,[]⟩) al ⟨Co,HA,trivial⟩ mixed Tryz.func9 rfl rfl (enters_of Tryz.func9 (by kernel_rfl) rfl) rfl (Nat.le_of_ble_eq_true rfl) rfl .no (fun d=>by kernel_rfl)
end R
namespace R
open Go.RowKit
open D
theorem Fz:FOk Tryz.prog 66 xl:=fok (V:=⟨tt,[(9,zG)],[],27,[]⟩) al ⟨HB,trivial⟩ mixed Tryz.func66 rfl rfl (enters_of Tryz.func66 (by kernel_rfl) rfl) rfl (Nat.le_of_ble_eq_true rfl) rfl (.two .no (.two .no (.two .no (.two (.two .no (.loop [.slot 1 (.num .i64),.slot 5 (.num .i64)] .no)) .no)))) (fun d=>by kernel_rfl)
theorem Di:FOk Tryz.prog 21 uU:=fok (V:=⟨tt,[(66,xl)],[],12,[]⟩) al ⟨Fz,trivial⟩ mixed Tryz.func21 rfl rfl (enters_of Tryz.func21 (by kernel_rfl) rfl) rfl (Nat.le_of_ble_eq_true rfl) rfl .no (fun d=>by kernel_rfl)
theorem KI:FOk Tryz.prog 98 B9:=fok (V:=⟨tt,[],[],17,[]⟩) al trivial mixed Tryz.func98 rfl rfl (enters_of Tryz.func98 (by kernel_rfl) rfl) rfl (Nat.le_of_ble_eq_true rfl) rfl .no (fun d=>by kernel_rfl)
theorem HC:FOk Tryz.prog 53 zH:=fok (V:=⟨tt,[(98,B9)],[],23,[]⟩) al ⟨KI,trivial⟩ mixed Tryz.func53 rfl rfl (enters_of Tryz.func53 (by kernel_rfl) rfl) rfl (Nat.le_of_ble_eq_true rfl) rfl (.two .no (.two .no (.two (.two .no (.loop [.row 3 150 NA,.slot 4 (.num .i64)] .no)) .no))) (fun d=>by kernel_rfl)
theorem HD:FOk Tryz.prog 12 zI:=fok (V:=⟨tt,[(52,wq),(53,zH)],[],13,[]⟩) al ⟨Cp,HC,trivial⟩ mixed Tryz.func12 rfl rfl (enters_of Tryz.func12 (by kernel_rfl) rfl) rfl (Nat.le_of_ble_eq_true rfl) rfl .no (fun d=>by kernel_rfl)
theorem FA:FOk Tryz.prog 69 xm:=fok (V:=⟨tt,[(12,zI)],[],23,[]⟩) al ⟨HD,trivial⟩ mixed Tryz.func69 rfl rfl (enters_of Tryz.func69 (by kernel_rfl) rfl) rfl (Nat.le_of_ble_eq_true rfl) rfl (.two .no (.two .no (.two (.two .no (.loop [.row 3 42 y42,.slot 4 (.num .i64)] .no)) .no))) (fun d=>by kernel_rfl)
theorem Dj:FOk Tryz.prog 23 uV:=fok (V:=⟨tt,[(69,xm)],[],12,[]⟩) al ⟨FA,trivial⟩ mixed Tryz.func23 rfl rfl (enters_of Tryz.func23 (by kernel_rfl) rfl) rfl (Nat.le_of_ble_eq_true rfl) rfl .no (fun d=>by kernel_rfl)
theorem KJ:FOk Tryz.prog 108 Ca:=fok (V:=⟨tt,[],[],25,[]⟩) al trivial mixed Tryz.func108 rfl rfl (enters_of Tryz.func108 (by kernel_rfl) rfl) rfl (Nat.le_of_ble_eq_true rfl) rfl .no (fun d=>by kernel_rfl)
theorem HE:FOk Tryz.prog 61 zJ:=fok (V:=⟨tt,[(108,Ca)],[],27,[]⟩) al ⟨KJ,trivial⟩ mixed Tryz.func61 rfl rfl (enters_of Tryz.func61 (by kernel_rfl) rfl) rfl (Nat.le_of_ble_eq_true rfl) rfl (.two .no (.two .no (.two (.two .no (.loop [.slot 5 (.num .i64)] .no)) .no))) (fun d=>by kernel_rfl)
theorem HF:FOk Tryz.prog 16 zK:=fok (V:=⟨tt,[(60,wt),(61,zJ)],[],17,[]⟩) al ⟨Cq,HE,trivial⟩ mixed Tryz.func16 rfl rfl (enters_of Tryz.func16 (by kernel_rfl) rfl) rfl (Nat.le_of_ble_eq_true rfl) rfl .no (fun d=>by kernel_rfl)
theorem FC:FOk Tryz.prog 73 xn:=fok (V:=⟨tt,[(16,zK)],[],27,[]⟩) al ⟨HF,trivial⟩ mixed Tryz.func73 rfl rfl (enters_of Tryz.func73 (by kernel_rfl) rfl) rfl (Nat.le_of_ble_eq_true rfl) rfl (.two .no (.two .no (.two (.two .no (.loop [.slot 5 (.num .i64)] .no)) .no))) (fun d=>by kernel_rfl)
theorem Dk:FOk Tryz.prog 28 uW:=fok (V:=⟨tt,[(73,xn)],[],16,[]⟩) al ⟨FC,trivial⟩ mixed Tryz.func28 rfl rfl (enters_of Tryz.func28 (by kernel_rfl) rfl) rfl (Nat.le_of_ble_eq_true rfl) rfl .no (fun d=>by kernel_rfl)
theorem HG:FOk Tryz.prog 154 zL:=fok (V:=⟨tt,[],[],12,[]⟩) al trivial mixed Tryz.func154 rfl rfl (enters_of Tryz.func154 (by kernel_rfl) rfl) rfl (Nat.le_of_ble_eq_true rfl) rfl .no (fun d=>by kernel_rfl)
theorem HH:FOk Tryz.prog 116 zM:=fok (V:=⟨tt,[(154,zL)],[],18,[]⟩) al ⟨HG,trivial⟩ mixed Tryz.func116 rfl rfl (enters_of Tryz.func116 (by kernel_rfl) rfl) rfl (Nat.le_of_ble_eq_true rfl) rfl .no (fun d=>by kernel_rfl)
theorem Dl:FOk Tryz.prog 79 uX:=fok (V:=⟨tt,[(116,zM)],[],12,[]⟩) al ⟨HH,trivial⟩ mixed Tryz.func79 rfl rfl (enters_of Tryz.func79 (by kernel_rfl) rfl) rfl (Nat.le_of_ble_eq_true rfl) rfl .no (fun d=>by kernel_rfl)
theorem Bc:FOk Tryz.prog 34 sP:=fok (V:=⟨tt,[(79,uX)],[],27,[]⟩) al ⟨Dl,trivial⟩ mixed Tryz.func34 rfl rfl (enters_of Tryz.func34 (by kernel_rfl) rfl) rfl (Nat.le_of_ble_eq_true rfl) rfl (.two .no (.two .no (.two .no (.two (.two .no (.loop [.slot 1 (.num .i64),.slot 5 (.num .i64)] .no)) .no)))) (fun d=>by kernel_rfl)
theorem Dm:FOk Tryz.prog 89 uY:=fok (V:=⟨tt,[],[],22,[]⟩) al trivial mixed Tryz.func89 rfl rfl (enters_of Tryz.func89 (by kernel_rfl) rfl) rfl (Nat.le_of_ble_eq_true rfl) rfl (.two .no (.two (.two .no (.loop [.slot 5 (.num .i64)] .no)) .no)) (fun d=>by kernel_rfl)
end R
namespace R
open Go.RowKit
open D
theorem lD:FOk Tryz.prog 92 ka:=fok (V:=⟨tt,[],[],15,[]⟩) al trivial mixed Tryz.func92 rfl rfl (enters_of Tryz.func92 (by kernel_rfl) rfl) rfl (Nat.le_of_ble_eq_true rfl) rfl .no (fun d=>by kernel_rfl)
theorem FD:FOk Tryz.prog 307 xp:=fok (V:=⟨tt,[(92,ka)],[],5,[]⟩) al ⟨lD,trivial⟩ mixed Tryz.func307 rfl rfl (enters_of Tryz.func307 (by kernel_rfl) rfl) rfl (Nat.le_of_ble_eq_true rfl) rfl .no (fun d=>by kernel_rfl)
theorem Af:FOk Tryz.prog 296 tR:=fok (V:=⟨tt,[(92,ka),(307,xp)],[],87,[]⟩) al ⟨lD,FD,trivial⟩ mixed Tryz.func296 rfl rfl (enters_of Tryz.func296 (by kernel_rfl) rfl) rfl (Nat.le_of_ble_eq_true rfl) rfl (.two .no (.two (.two .no (.join [.slot 5 .boo] .no (.two .no (.two .no (.two .no (.join [.slot 37 .boo] .no .no)))))) .no)) (fun d=>by kernel_rfl)
theorem KK:FOk Tryz.prog 293 Cb:=fok (V:=⟨tt,[(296,tR)],[],32,[]⟩) al ⟨Af,trivial⟩ mixed Tryz.func293 rfl rfl (enters_of Tryz.func293 (by kernel_rfl) rfl) rfl (Nat.le_of_ble_eq_true rfl) rfl (.two .no (.two .no (.two (.two .no (.loop [.slot 3 (.num .i64),.slot 4 (.num .i64)] .no)) .no))) (fun d=>by kernel_rfl)
theorem Ag:FOk Tryz.prog 257 rq:=fok (V:=⟨tt,[(293,Cb)],[],11,[]⟩) al ⟨KK,trivial⟩ mixed Tryz.func257 rfl rfl (enters_of Tryz.func257 (by kernel_rfl) rfl) rfl (Nat.le_of_ble_eq_true rfl) rfl .no (fun d=>by kernel_rfl)
theorem tX:FOk Tryz.prog 260 qe:=fok (V:=⟨tt,[(296,tR)],[],20,[]⟩) al ⟨Af,trivial⟩ mixed Tryz.func260 rfl rfl (enters_of Tryz.func260 (by kernel_rfl) rfl) rfl (Nat.le_of_ble_eq_true rfl) rfl (.two .no (.two .no (.two .no (.two (.loop [.slot 3 (.num .i64),.slot 4 (.num .i64)] .no) .no)))) (fun d=>by kernel_rfl)
theorem Ah: ∀n,FOk Tryz.prog 258 (qf n)
 | 0=>jK (f:=qf 0) (enters_of Tryz.func258 (by kernel_rfl) rfl) rfl (fun d=>rfl)
 | n+1=>by
  have ih:=Ah n
  exact fok (V:=⟨tt,[(258,(qf n)),(260,qe)],[],54,[]⟩) al ⟨ih,tX,trivial⟩ mixed Tryz.func258 rfl rfl (enters_of Tryz.func258 (by kernel_rfl) rfl) rfl (Nat.le_of_ble_eq_true rfl) rfl (.two .no (.two .no (.two .no (.two (.two .no (.two (.two .no (.at [.slot 15 .boo] .no)) .no)) .no)))) (fun d=>by kernel_rfl)
theorem Cr:FOk Tryz.prog 168 wu:=fok (V:=⟨tt,[],[],7,[]⟩) al trivial mixed Tryz.func168 rfl rfl (enters_of Tryz.func168 (by kernel_rfl) rfl) rfl (Nat.le_of_ble_eq_true rfl) rfl .no (fun d=>by kernel_rfl)
theorem Cs:FOk Tryz.prog 294 wv:=fok (V:=⟨tt,[(168,wu)],[],24,[]⟩) al ⟨Cr,trivial⟩ mixed Tryz.func294 rfl rfl (enters_of Tryz.func294 (by kernel_rfl) rfl) rfl (Nat.le_of_ble_eq_true rfl) rfl .no (fun d=>by kernel_rfl)
theorem KL:FOk Tryz.prog 306 Cc:=fok (V:=⟨tt,[],[],7,[]⟩) al trivial mixed Tryz.func306 rfl rfl (enters_of Tryz.func306 (by kernel_rfl) rfl) rfl (Nat.le_of_ble_eq_true rfl) rfl .no (fun d=>by kernel_rfl)
theorem xz: ∀n,FOk Tryz.prog 295 (nX n)
 | 0=>jK (f:=nX 0) (enters_of Tryz.func295 (by kernel_rfl) rfl) rfl (fun d=>rfl)
 | n+1=>by
  have ih:=xz n
  exact fok (V:=⟨tt,[(294,wv),(295,(nX n)),(306,Cc)],[],28,[]⟩) al ⟨Cs,ih,KL,trivial⟩ mixed Tryz.func295 rfl rfl (enters_of Tryz.func295 (by kernel_rfl) rfl) rfl (Nat.le_of_ble_eq_true rfl) rfl .no (fun d=>by kernel_rfl)
theorem vo: ∀n,FOk Tryz.prog 259 (mG n)
 | 0=>jK (f:=mG 0) (enters_of Tryz.func259 (by kernel_rfl) rfl) rfl (fun d=>rfl)
 | n+1=>by
  have ih:=vo n
  exact fok (V:=⟨tt,[(259,(mG n)),(260,qe),(294,wv),(295,(nX fK))],[],56,[]⟩) al ⟨ih,tX,Cs,(xz fK),trivial⟩ mixed Tryz.func259 rfl rfl (enters_of Tryz.func259 (by kernel_rfl) rfl) rfl (Nat.le_of_ble_eq_true rfl) rfl (.two .no (.two .no (.two .no (.two (.two .no (.two (.two .no (.at [.slot 15 .boo] .no)) .no)) .no)))) (fun d=>by kernel_rfl)
theorem Bd:FOk Tryz.prog 225 sQ:=fok (V:=⟨tt,[(257,rq),(258,(qf fK)),(259,(mG fK))],[],24,[]⟩) al ⟨Ag,(Ah fK),(vo fK),trivial⟩ mixed Tryz.func225 rfl rfl (enters_of Tryz.func225 (by kernel_rfl) rfl) rfl (Nat.le_of_ble_eq_true rfl) rfl .no (fun d=>by kernel_rfl)
theorem HI:FOk Tryz.prog 261 zN:=fok (V:=⟨tt,[],[],36,[]⟩) al trivial mixed Tryz.func261 rfl rfl (enters_of Tryz.func261 (by kernel_rfl) rfl) rfl (Nat.le_of_ble_eq_true rfl) rfl (.two .no (.loop [.slot 6 (.num .i64),.par 3 [3] 3 y3] (.two .no (.two (.at [.par 3 [3] 3 y3] .no) .no)))) (fun d=>by kernel_rfl)
theorem xA: ∀n,FOk Tryz.prog 226 (nY n)
 | 0=>jK (f:=nY 0) (enters_of Tryz.func226 (by kernel_rfl) rfl) rfl (fun d=>rfl)
 | n+1=>by
  have ih:=xA n
  exact fok (V:=⟨tt,[(226,(nY n)),(260,qe),(261,zN)],[],163,[]⟩) al ⟨ih,tX,HI,trivial⟩ mixed Tryz.func226 rfl rfl (enters_of Tryz.func226 (by kernel_rfl) rfl) rfl (Nat.le_of_ble_eq_true rfl) rfl (.two .no (.two .no (.two .no (.two (.two .no (.two .no (.two .no (.two .no (.two .no (.two .no (.two (.two .no (.two .no (.two .no (.two .no (.two .no (.two (.two .no (.at [.box 11 [.boo,(.num .i64),(.num .i64)]] .no)) (.two (.two .no (.at [.box 11 [.boo,(.num .i64),(.num .i64)]] .no)) .no))))))) .no))))))) .no)))) (fun d=>by kernel_rfl)
theorem vp:FOk Tryz.prog 199 nZ:=fok (V:=⟨tt,[(225,sQ),(226,(nY fK))],[],51,[]⟩) al ⟨Bd,(xA fK),trivial⟩ mixed Tryz.func199 rfl rfl (enters_of Tryz.func199 (by kernel_rfl) rfl) rfl (Nat.le_of_ble_eq_true rfl) rfl (.two .no (.two .no (.two .no (.two .no (.two (.two .no (.loop [.slot 6 (.num .i64),.slot 7 (.num .i64)] (.two .no (.two (.at [.slot 6 (.num .i64)] .no) .no)))) .no))))) (fun d=>by kernel_rfl)
theorem FE:FOk Tryz.prog 227 xq:=fok (V:=⟨tt,[],[],63,[]⟩) al trivial mixed Tryz.func227 rfl rfl (enters_of Tryz.func227 (by kernel_rfl) rfl) rfl (Nat.le_of_ble_eq_true rfl) rfl (.two .no (.two .no (.join [.slot 7 (.num .i64)] .no (.two (.two .no (.loop [.slot 7 (.num .i64),.slot 8 (.num .i64)] (.two .no (.join [.slot 7 (.num .i64)] .no .no)))) (.two .no (.two (.two .no (.loop [.slot 9 (.num .i64),.slot 10 (.num .i64)] (.two .no (.join [.slot 9 (.num .i64)] .no .no)))) .no)))))) (fun d=>by kernel_rfl)
end R
namespace R
open Go.RowKit
open D
theorem Ai:FOk Tryz.prog 228 tS:=fok (V:=⟨tt,[],[],19,[]⟩) al trivial mixed Tryz.func228 rfl rfl (enters_of Tryz.func228 (by kernel_rfl) rfl) rfl (Nat.le_of_ble_eq_true rfl) rfl (.two .no (.two (.two .no (.loop [.slot 5 (.num .i64)] .no)) .no)) (fun d=>by kernel_rfl)
theorem Be:FOk Tryz.prog 229 sR:=fok (V:=⟨tt,[],[],20,[]⟩) al trivial mixed Tryz.func229 rfl rfl (enters_of Tryz.func229 (by kernel_rfl) rfl) rfl (Nat.le_of_ble_eq_true rfl) rfl .no (fun d=>by kernel_rfl)
theorem Bf:FOk Tryz.prog 200 sS:=fok (V:=⟨tt,[(227,xq),(228,tS),(229,sR)],[],73,[]⟩) al ⟨FE,Ai,Be,trivial⟩ mixed Tryz.func200 rfl rfl (enters_of Tryz.func200 (by kernel_rfl) rfl) rfl (Nat.le_of_ble_eq_true rfl) rfl (.two .no (.two .no (.two .no (.two (.two .no (.loop [.slot 7 (.own 3 y3),.slot 8 (.num .i64),.box 6 [(.num .i64),(.own 4 y4),(.own 26 y26)]] (.two .no (.two (.two .no (.two (.two .no (.loop [.slot 7 (.own 3 y3),.slot 9 (.own 3 y3),.slot 10 (.num .i64)] (.two .no (.two (.two .no (.two .no (.join [.slot 7 (.own 3 y3),.slot 12 (.num .i64)] .no .no))) .no)))) .no)) .no)))) .no)))) (fun d=>by kernel_rfl)
theorem Bg:FOk Tryz.prog 262 sU:=fok (V:=⟨tt,[],[],15,[]⟩) al trivial mixed Tryz.func262 rfl rfl (enters_of Tryz.func262 (by kernel_rfl) rfl) rfl (Nat.le_of_ble_eq_true rfl) rfl (.two .no (.two .no (.two (.two .no (.loop [.slot 1 (.own 3 y3),.slot 2 (.num .i64)] .no)) .no))) (fun d=>by kernel_rfl)
theorem Dn:FOk Tryz.prog 230 uZ:=fok (V:=⟨tt,[(228,tS),(262,sU)],[],107,[]⟩) al ⟨Ai,Bg,trivial⟩ mixed Tryz.func230 rfl rfl (enters_of Tryz.func230 (by kernel_rfl) rfl) rfl (Nat.le_of_ble_eq_true rfl) rfl (.two .no (.two .no (.two .no (.two .no (.two .no (.two (.two .no (.loop [.slot 8 (.own 3 y3),.slot 9 (.own 3 y3),.slot 10 (.num .i64),.box 7 [(.num .i64),(.own 4 y4),(.own 26 y26)]] (.two .no (.two (.two .no (.two (.two .no (.loop [.slot 8 (.own 3 y3),.slot 9 (.own 3 y3),.slot 11 (.own 3 y3),.slot 12 (.num .i64)] (.two .no (.two (.two .no (.two .no (.join [.slot 8 (.own 3 y3),.slot 9 (.own 3 y3),.slot 14 (.num .i64)] .no .no))) .no)))) .no)) .no)))) .no)))))) (fun d=>by kernel_rfl)
theorem Aj:FOk Tryz.prog 150 vc:=fok (V:=⟨tt,[],[],46,[]⟩) al trivial mixed Tryz.func150 rfl rfl (enters_of Tryz.func150 (by kernel_rfl) rfl) rfl (Nat.le_of_ble_eq_true rfl) rfl (.two .no (.two (.two .no (.loop [.slot 5 (.num .i64)] .no)) .no)) (fun d=>by kernel_rfl)
theorem Ak:FOk Tryz.prog 232 tT:=fok (V:=⟨tt,[],[],55,[]⟩) al trivial mixed Tryz.func232 rfl rfl (enters_of Tryz.func232 (by kernel_rfl) rfl) rfl (Nat.le_of_ble_eq_true rfl) rfl (.two .no (.two .no (.two (.two .no (.loop [.row 3 4 y4,.slot 4 (.num .i64)] (.two .no (.two (.two .no (.loop [.row 3 4 y4,.slot 5 (.num .i64)] (.two .no (.two (.two .no (.loop [.row 3 4 y4,.slot 6 (.num .i64)] (.two .no (.join [.row 3 4 y4] .no .no)))) .no)))) .no)))) .no))) (fun d=>by kernel_rfl)
theorem KM:FOk Tryz.prog 263 Cd:=fok (V:=⟨tt,[],[],40,[]⟩) al trivial mixed Tryz.func263 rfl rfl (enters_of Tryz.func263 (by kernel_rfl) rfl) rfl (Nat.le_of_ble_eq_true rfl) rfl (.two .no (.two .no (.two (.two .no (.loop [.slot 7 (.own 3 y3),.slot 8 (.num .i64)] (.two .no (.join [.slot 7 (.own 3 y3)] .no .no)))) .no))) (fun d=>by kernel_rfl)
theorem Bh:FOk Tryz.prog 231 sV:=fok (V:=⟨tt,[(150,vc),(232,tT),(263,Cd)],[],99,[]⟩) al ⟨Aj,Ak,KM,trivial⟩ mixed Tryz.func231 rfl rfl (enters_of Tryz.func231 (by kernel_rfl) rfl) rfl (Nat.le_of_ble_eq_true rfl) rfl (.two .no (.two .no (.two .no (.two (.two .no (.loop [.slot 4 (.own 3 y3),.slot 5 (.num .i64)] (.two .no (.two (.two .no (.two (.two .no (.at [.slot 6 (.num .i64)] .no)) (.two (.two .no (.at [.slot 6 (.num .i64)] .no)) .no))) .no)))) (.two (.two .no (.loop [.slot 4 (.own 3 y3),.slot 7 (.num .i64)] (.two .no (.two (.two .no (.two .no (.two (.two .no (.loop [.slot 8 (.own 26 y26),.slot 9 (.own 3 y3),.slot 10 (.num .i64)] (.two .no (.two (.at [.slot 8 (.own 26 y26),.slot 9 (.own 3 y3)] (.two .no (.two .no (.two .no (.two (.two .no (.loop [.slot 12 (.num .i64),.slot 13 (.num .i64)] (.two .no (.two (.at [.slot 12 (.num .i64)] .no) .no)))) (.two (.two .no (.at [.slot 8 (.own 26 y26),.slot 12 (.num .i64),.gone 11] .no)) .no)))))) .no)))) .no))) .no)))) .no))))) (fun d=>by kernel_rfl)
theorem Al:FOk Tryz.prog 201 rr:=fok (V:=⟨tt,[(230,uZ),(231,sV),(232,tT)],[],9,[]⟩) al ⟨Dn,Bh,Ak,trivial⟩ mixed Tryz.func201 rfl rfl (enters_of Tryz.func201 (by kernel_rfl) rfl) rfl (Nat.le_of_ble_eq_true rfl) rfl .no (fun d=>by kernel_rfl)
theorem Am:FOk Tryz.prog 166 ru:=fok (V:=⟨tt,[(199,nZ),(200,sS),(201,rr)],[],33,[]⟩) al ⟨vp,Bf,Al,trivial⟩ mixed Tryz.func166 rfl rfl (enters_of Tryz.func166 (by kernel_rfl) rfl) rfl (Nat.le_of_ble_eq_true rfl) rfl .no (fun d=>by kernel_rfl)
theorem ph:FOk Tryz.prog 169 kL:=fok (V:=⟨tt,[(150,vc)],[],67,[]⟩) al ⟨Aj,trivial⟩ mixed Tryz.func169 rfl rfl (enters_of Tryz.func169 (by kernel_rfl) rfl) rfl (Nat.le_of_ble_eq_true rfl) rfl (.two .no (.two .no (.two (.two .no (.loop [.slot 5 (.num .i64)] .no)) (.two (.two .no (.loop [.slot 6 (.num .i64)] .no)) .no)))) (fun d=>by kernel_rfl)
theorem FF:FOk Tryz.prog 167 xr:=fok (V:=⟨tt,[(169,kL)],[],19,[]⟩) al ⟨ph,trivial⟩ mixed Tryz.func167 rfl rfl (enters_of Tryz.func167 (by kernel_rfl) rfl) rfl (Nat.le_of_ble_eq_true rfl) rfl (.two .no (.two (.two .no (.loop [.slot 5 (.num .i64)] .no)) .no)) (fun d=>by kernel_rfl)
theorem FG:FOk Tryz.prog 129 xt:=fok (V:=⟨tt,[(92,ka),(166,ru),(167,xr),(168,wu)],[],94,[]⟩) al ⟨lD,Am,FF,Cr,trivial⟩ mixed Tryz.func129 rfl rfl (enters_of Tryz.func129 (by kernel_rfl) rfl) rfl (Nat.le_of_ble_eq_true rfl) rfl (.two .no (.two .no (.two .no (.two (.two .no (.loop [.slot 5 (.num .i64),.box 4 [(.own 92 y92),(.own 146 Gw)]] (.two .no (.two (.two .no (.two .no (.two .no (.join [.slot 8 (.num .i64),.box 4 [(.own 92 y92),(.own 146 Gw)],.gone 6] .no .no)))) .no)))) .no)))) (fun d=>by kernel_rfl)
theorem Bi:FOk Tryz.prog 170 sW:=fok (V:=⟨tt,[],[],31,[]⟩) al trivial mixed Tryz.func170 rfl rfl (enters_of Tryz.func170 (by kernel_rfl) rfl) rfl (Nat.le_of_ble_eq_true rfl) rfl (.two .no (.two .no (.two (.two .no (.loop [.slot 5 (.num .i64)] .no)) .no))) (fun d=>by kernel_rfl)
theorem tY:FOk Tryz.prog 130 nr:=fok (V:=⟨tt,[(169,kL),(170,sW)],[],93,[]⟩) al ⟨ph,Bi,trivial⟩ mixed Tryz.func130 rfl rfl (enters_of Tryz.func130 (by kernel_rfl) rfl) rfl (Nat.le_of_ble_eq_true rfl) rfl (.two .no (.two .no (.two (.two .no (.loop [.slot 5 (.num .i64)] .no)) (.two (.two .no (.loop [.slot 6 (.num .i64)] .no)) .no)))) (fun d=>by kernel_rfl)
theorem tZ:FOk Tryz.prog 90 nt:=fok (V:=⟨tt,[(129,xt),(130,nr)],[],17,[]⟩) al ⟨FG,tY,trivial⟩ mixed Tryz.func90 rfl rfl (enters_of Tryz.func90 (by kernel_rfl) rfl) rfl (Nat.le_of_ble_eq_true rfl) rfl .no (fun d=>by kernel_rfl)
end R
namespace R
open Go.RowKit
open D
theorem HJ:FOk Tryz.prog 91 zO:=fok (V:=⟨tt,[],[],32,[]⟩) al trivial mixed Tryz.func91 rfl rfl (enters_of Tryz.func91 (by kernel_rfl) rfl) rfl (Nat.le_of_ble_eq_true rfl) rfl (.two .no (.two .no (.two (.two .no (.loop [.slot 4 (.num .i64),.box 3 [(.num .i64),(.own 4 y4),(.own 26 y26)]] .no)) .no))) (fun d=>by kernel_rfl)
theorem vq:FOk Tryz.prog 47 n9:=fok (V:=⟨tt,[(89,uY),(90,nt),(91,zO)],[],29,[]⟩) al ⟨Dm,tZ,HJ,trivial⟩ mixed Tryz.func47 rfl rfl (enters_of Tryz.func47 (by kernel_rfl) rfl) rfl (Nat.le_of_ble_eq_true rfl) rfl .no (fun d=>by kernel_rfl)
theorem KN:FOk Tryz.prog 93 Ce:=fok (V:=⟨tt,[(92,ka)],[],30,[]⟩) al ⟨lD,trivial⟩ mixed Tryz.func93 rfl rfl (enters_of Tryz.func93 (by kernel_rfl) rfl) rfl (Nat.le_of_ble_eq_true rfl) rfl .no (fun d=>by kernel_rfl)
theorem l8:FOk Tryz.prog 48 iY:=fok (V:=⟨tt,[(92,ka),(93,Ce)],[],64,[]⟩) al ⟨lD,KN,trivial⟩ mixed Tryz.func48 rfl rfl (enters_of Tryz.func48 (by kernel_rfl) rfl) rfl (Nat.le_of_ble_eq_true rfl) rfl (.two .no (.two (.two .no (.loop [.slot 3 (.num .i64)] .no)) (.two (.two .no (.loop [.slot 4 (.num .i64)] .no)) .no))) (fun d=>by kernel_rfl)
theorem HK:FOk Tryz.prog 171 zP:=fok (V:=⟨tt,[(92,ka)],[],50,[]⟩) al ⟨lD,trivial⟩ mixed Tryz.func171 rfl rfl (enters_of Tryz.func171 (by kernel_rfl) rfl) rfl (Nat.le_of_ble_eq_true rfl) rfl (.two .no (.two .no (.two .no (.two (.two .no (.loop [.slot 4 (.num .i64)] (.two .no (.two (.two .no (.two .no (.loop [.slot 5 (.num .i64)] .no))) .no)))) .no)))) (fun d=>by kernel_rfl)
theorem sF:FOk Tryz.prog 131 me:=fok (V:=⟨tt,[(171,zP)],[],11,[]⟩) al ⟨HK,trivial⟩ mixed Tryz.func131 rfl rfl (enters_of Tryz.func131 (by kernel_rfl) rfl) rfl (Nat.le_of_ble_eq_true rfl) rfl .no (fun d=>by kernel_rfl)
theorem HL:FOk Tryz.prog 94 zQ:=fok (V:=⟨tt,[(48,iY),(92,ka),(131,me)],[],31,[]⟩) al ⟨l8,lD,sF,trivial⟩ mixed Tryz.func94 rfl rfl (enters_of Tryz.func94 (by kernel_rfl) rfl) rfl (Nat.le_of_ble_eq_true rfl) rfl .no (fun d=>by kernel_rfl)
theorem tn:FOk Tryz.prog 173 oF:=fok (V:=⟨tt,[],[],31,[]⟩) al trivial mixed Tryz.func173 rfl rfl (enters_of Tryz.func173 (by kernel_rfl) rfl) rfl (Nat.le_of_ble_eq_true rfl) rfl (.two .no (.two .no (.two (.loop [.slot 1 (.num .i64),.slot 7 (.num .i64)] .no) .no))) (fun d=>by kernel_rfl)
theorem KO:FOk Tryz.prog 202 Cf:=fok (V:=⟨tt,[],[],52,[]⟩) al trivial mixed Tryz.func202 rfl rfl (enters_of Tryz.func202 (by kernel_rfl) rfl) rfl (Nat.le_of_ble_eq_true rfl) rfl (.two .no (.two .no (.two (.two .no (.loop [.slot 5 (.own 203 Ur),.slot 6 (.num .i64)] (.two .no (.join [.slot 5 (.own 203 Ur)] (.join [.slot 5 (.own 203 Ur)] .no .no) .no)))) .no))) (fun d=>by kernel_rfl)
theorem Do:FOk Tryz.prog 203 vd:=fok (V:=⟨tt,[],[],22,[]⟩) al trivial mixed Tryz.func203 rfl rfl (enters_of Tryz.func203 (by kernel_rfl) rfl) rfl (Nat.le_of_ble_eq_true rfl) rfl (.two .no (.two (.two .no (.loop [.slot 5 (.num .i64)] .no)) .no)) (fun d=>by kernel_rfl)
theorem Dq:FOk Tryz.prog 204 ve:=fok (V:=⟨tt,[],[],13,[]⟩) al trivial mixed Tryz.func204 rfl rfl (enters_of Tryz.func204 (by kernel_rfl) rfl) rfl (Nat.le_of_ble_eq_true rfl) rfl .no (fun d=>by kernel_rfl)
theorem NB:FOk Tryz.prog 205 Fq:=fok (V:=⟨tt,[],[],10,[]⟩) al trivial mixed Tryz.func205 rfl rfl (enters_of Tryz.func205 (by kernel_rfl) rfl) rfl (Nat.le_of_ble_eq_true rfl) rfl .no (fun d=>by kernel_rfl)
theorem FH:FOk Tryz.prog 172 xu:=fok (V:=⟨tt,[(173,oF),(202,Cf),(203,vd),(204,ve),(205,Fq)],[],110,[]⟩) al ⟨tn,KO,Do,Dq,NB,trivial⟩ mixed Tryz.func172 rfl rfl (enters_of Tryz.func172 (by kernel_rfl) rfl) rfl (Nat.le_of_ble_eq_true rfl) rfl (.two .no (.two .no (.two .no (.two .no (.two (.two .no (.loop [.slot 9 (.own 205 V9),.slot 12 (.num .i64)] (.two .no (.two (.two .no (.two .no (.two (.two .no (.loop [.slot 14 (.num .i64),.slot 15 (.num .i64)] (.two .no (.join [.slot 14 (.num .i64)] .no .no)))) (.two .no (.loop [.slot 9 (.own 205 V9),.slot 17 (.num .i64)] (.two .no (.join [.slot 9 (.own 205 V9)] .no .no))))))) .no)))) .no))))) (fun d=>by kernel_rfl)
theorem FI:FOk Tryz.prog 132 xw:=fok (V:=⟨tt,[(172,xu)],[],104,[]⟩) al ⟨FH,trivial⟩ mixed Tryz.func132 rfl rfl (enters_of Tryz.func132 (by kernel_rfl) rfl) rfl (Nat.le_of_ble_eq_true rfl) rfl (.two .no (.two .no (.two .no (.two (.two .no (.loop [.slot 8 (.own 3 y3),.slot 9 (.num .i64)] .no)) (.two .no (.two .no (.two (.two .no (.loop [.row 8 3 y3,.slot 10 (.own 3 y3),.slot 11 (.num .i64)] (.two .no (.two (.two .no (.two .no (.loop [.row 8 3 y3,.slot 10 (.own 3 y3),.slot 13 (.num .i64)] (.two .no (.join [.row 8 3 y3,.slot 10 (.own 3 y3)] .no .no))))) .no)))) .no))))))) (fun d=>by kernel_rfl)
theorem Bj:FOk Tryz.prog 133 sX:=fok (V:=⟨tt,[(173,oF)],[],38,[]⟩) al ⟨tn,trivial⟩ mixed Tryz.func133 rfl rfl (enters_of Tryz.func133 (by kernel_rfl) rfl) rfl (Nat.le_of_ble_eq_true rfl) rfl (.two .no (.two .no (.two (.two .no (.loop [.slot 10 (.num .i64)] .no)) .no))) (fun d=>by kernel_rfl)
theorem NC:FOk Tryz.prog 134 Fs:=fok (V:=⟨tt,[],[],20,[]⟩) al trivial mixed Tryz.func134 rfl rfl (enters_of Tryz.func134 (by kernel_rfl) rfl) rfl (Nat.le_of_ble_eq_true rfl) rfl (.two .no (.two .no (.two (.two .no (.loop [.slot 3 (.own 3 y3),.slot 4 (.num .i64)] (.two .no (.join [.slot 3 (.own 3 y3)] .no .no)))) .no))) (fun d=>by kernel_rfl)
theorem HM:FOk Tryz.prog 95 zR:=fok (V:=⟨tt,[(132,xw),(133,sX),(134,Fs)],[],48,[]⟩) al ⟨FI,Bj,NC,trivial⟩ mixed Tryz.func95 rfl rfl (enters_of Tryz.func95 (by kernel_rfl) rfl) rfl (Nat.le_of_ble_eq_true rfl) rfl (.two .no (.two .no (.two .no (.two .no (.two (.two .no (.loop [.slot 9 (.num .i64),.slot 10 (.num .i64)] (.two .no (.join [.slot 9 (.num .i64)] .no .no)))) .no))))) (fun d=>by kernel_rfl)
end R
namespace R
open Go.RowKit
open D
theorem Bk:FOk Tryz.prog 49 sY:=fok (V:=⟨tt,[(94,zQ),(95,zR)],[],42,[]⟩) al ⟨HL,HM,trivial⟩ mixed Tryz.func49 rfl rfl (enters_of Tryz.func49 (by kernel_rfl) rfl) rfl (Nat.le_of_ble_eq_true rfl) rfl (.two .no (.two .no (.two (.two .no (.loop [.slot 5 (.own 103 qd),.slot 6 (.num .i64)] (.two .no (.two (.two .no (.two .no (.loop [.slot 5 (.own 103 qd),.slot 8 (.num .i64)] .no))) .no)))) .no))) (fun d=>by kernel_rfl)
theorem xP:FOk Tryz.prog 10 qz:=fok (V:=⟨tt,[(47,n9),(48,iY),(49,sY)],[],27,[]⟩) al ⟨vq,l8,Bk,trivial⟩ mixed Tryz.func10 rfl rfl (enters_of Tryz.func10 (by kernel_rfl) rfl) rfl (Nat.le_of_ble_eq_true rfl) rfl .no (fun d=>by kernel_rfl)
theorem oo:FOk Tryz.prog 112 kc:=fok (V:=⟨tt,[(48,iY),(92,ka),(150,vc)],[],47,[]⟩) al ⟨l8,lD,Aj,trivial⟩ mixed Tryz.func112 rfl rfl (enters_of Tryz.func112 (by kernel_rfl) rfl) rfl (Nat.le_of_ble_eq_true rfl) rfl (.two .no (.two (.two .no (.loop [.slot 3 (.num .i64)] .no)) .no)) (fun d=>by kernel_rfl)
theorem wD:FOk Tryz.prog 77 o6:=fok (V:=⟨tt,[(112,kc)],[],13,[]⟩) al ⟨oo,trivial⟩ mixed Tryz.func77 rfl rfl (enters_of Tryz.func77 (by kernel_rfl) rfl) rfl (Nat.le_of_ble_eq_true rfl) rfl .no (fun d=>by kernel_rfl)
theorem KP:FOk Tryz.prog 117 Cg:=fok (V:=⟨tt,[],[],12,[]⟩) al trivial mixed Tryz.func117 rfl rfl (enters_of Tryz.func117 (by kernel_rfl) rfl) rfl (Nat.le_of_ble_eq_true rfl) rfl .no (fun d=>by kernel_rfl)
theorem HO:FOk Tryz.prog 80 zS:=fok (V:=⟨tt,[(77,o6),(92,ka),(112,kc),(117,Cg)],[],28,[]⟩) al ⟨wD,lD,oo,KP,trivial⟩ mixed Tryz.func80 rfl rfl (enters_of Tryz.func80 (by kernel_rfl) rfl) rfl (Nat.le_of_ble_eq_true rfl) rfl .no (fun d=>by kernel_rfl)
theorem An:FOk Tryz.prog 155 tU:=fok (V:=⟨tt,[],[],24,[]⟩) al trivial mixed Tryz.func155 rfl rfl (enters_of Tryz.func155 (by kernel_rfl) rfl) rfl (Nat.le_of_ble_eq_true rfl) rfl .no (fun d=>by kernel_rfl)
theorem rE:FOk Tryz.prog 118 oc:=fok (V:=⟨tt,[(92,ka),(155,tU)],[],43,[]⟩) al ⟨lD,An,trivial⟩ mixed Tryz.func118 rfl rfl (enters_of Tryz.func118 (by kernel_rfl) rfl) rfl (Nat.le_of_ble_eq_true rfl) rfl (.two .no (.two (.two .no (.loop [.slot 3 (.num .i64)] .no)) .no)) (fun d=>by kernel_rfl)
theorem wE:FOk Tryz.prog 157 sy:=fok (V:=⟨tt,[],[],18,[]⟩) al trivial mixed Tryz.func157 rfl rfl (enters_of Tryz.func157 (by kernel_rfl) rfl) rfl (Nat.le_of_ble_eq_true rfl) rfl (.two .no (.two (.two .no (.loop [.slot 5 (.num .i64)] .no)) .no)) (fun d=>by kernel_rfl)
theorem Ct:FOk Tryz.prog 190 wx:=fok (V:=⟨tt,[(155,tU)],[(36,.bool)],45,[]⟩) al ⟨An,trivial⟩ mixed Tryz.func190 rfl rfl (enters_of Tryz.func190 (by kernel_rfl) rfl) rfl (Nat.le_of_ble_eq_true rfl) rfl (.two .no (.two .no (.two (.loop [.slot 5 (.num .i64)] .no) .no))) (fun d=>by kernel_rfl)
theorem wF:FOk Tryz.prog 151 o7:=fok (V:=⟨tt,[(157,sy),(190,wx)],[],28,[]⟩) al ⟨wE,Ct,trivial⟩ mixed Tryz.func151 rfl rfl (enters_of Tryz.func151 (by kernel_rfl) rfl) rfl (Nat.le_of_ble_eq_true rfl) rfl (.two .no (.two .no (.two (.two .no (.loop [.slot 5 (.own 103 qd),.slot 6 (.num .i64)] (.two .no (.join [.slot 5 (.own 103 qd)] .no .no)))) .no))) (fun d=>by kernel_rfl)
theorem HP:FOk Tryz.prog 156 zT:=fok (V:=⟨tt,[(118,oc),(157,sy)],[],27,[]⟩) al ⟨rE,wE,trivial⟩ mixed Tryz.func156 rfl rfl (enters_of Tryz.func156 (by kernel_rfl) rfl) rfl (Nat.le_of_ble_eq_true rfl) rfl (.two .no (.two (.two .no (.loop [.slot 3 (.num .i64)] .no)) .no)) (fun d=>by kernel_rfl)
theorem Bl:FOk Tryz.prog 158 sZ:=fok (V:=⟨tt,[(190,wx)],[],34,[]⟩) al ⟨Ct,trivial⟩ mixed Tryz.func158 rfl rfl (enters_of Tryz.func158 (by kernel_rfl) rfl) rfl (Nat.le_of_ble_eq_true rfl) rfl (.two .no (.two .no (.two (.two .no (.loop [.slot 5 (.own 103 qd),.slot 6 (.num .i64)] .no)) (.two (.two .no (.loop [.slot 5 (.own 103 qd),.slot 7 (.num .i64)] .no)) .no)))) (fun d=>by kernel_rfl)
theorem Bm:FOk Tryz.prog 119 ta:=fok (V:=⟨tt,[(118,oc),(151,o7),(156,zT),(157,sy),(158,sZ)],[],62,[]⟩) al ⟨rE,wF,HP,wE,Bl,trivial⟩ mixed Tryz.func119 rfl rfl (enters_of Tryz.func119 (by kernel_rfl) rfl) rfl (Nat.le_of_ble_eq_true rfl) rfl (.two .no (.join [.slot 6 .boo] .no (.two (.two .no (.loop [.slot 6 .boo,.slot 7 (.num .i64)] .no)) (.two (.two .no (.loop [.slot 6 .boo,.slot 8 (.num .i64)] .no)) .no)))) (fun d=>by kernel_rfl)
theorem xQ:FOk Tryz.prog 81 qA:=fok (V:=⟨tt,[(118,oc),(119,ta)],[],39,[]⟩) al ⟨rE,Bm,trivial⟩ mixed Tryz.func81 rfl rfl (enters_of Tryz.func81 (by kernel_rfl) rfl) rfl (Nat.le_of_ble_eq_true rfl) rfl .no (fun d=>by kernel_rfl)
theorem Bn:FOk Tryz.prog 82 tc:=fok (V:=⟨tt,[],[],26,[]⟩) al trivial mixed Tryz.func82 rfl rfl (enters_of Tryz.func82 (by kernel_rfl) rfl) rfl (Nat.le_of_ble_eq_true rfl) rfl (.two .no (.two .no (.two (.two .no (.loop [.slot 5 (.num .i64)] .no)) .no))) (fun d=>by kernel_rfl)
theorem wG:FOk Tryz.prog 35 o8:=fok (V:=⟨tt,[(10,qz),(80,zS),(81,qA),(82,tc)],[],102,[]⟩) al ⟨xP,HO,xQ,Bn,trivial⟩ mixed Tryz.func35 rfl rfl (enters_of Tryz.func35 (by kernel_rfl) rfl) rfl (Nat.le_of_ble_eq_true rfl) rfl (.two .no (.two .no (.two .no (.two .no (.two .no (.two (.two .no (.loop [.slot 13 (.own 103 qd),.slot 15 (.num .i64),.slot 16 (.num .i64)] .no)) .no)))))) (fun d=>by kernel_rfl)
end R
namespace R
open Go.RowKit
open D
theorem KQ:FOk Tryz.prog 195 Ci:=fok (V:=⟨tt,[],[],11,[]⟩) al trivial mixed Tryz.func195 rfl rfl (enters_of Tryz.func195 (by kernel_rfl) rfl) rfl (Nat.le_of_ble_eq_true rfl) rfl .no (fun d=>by kernel_rfl)
theorem HQ:FOk Tryz.prog 159 zU:=fok (V:=⟨tt,[(195,Ci)],[],23,[]⟩) al ⟨KQ,trivial⟩ mixed Tryz.func159 rfl rfl (enters_of Tryz.func159 (by kernel_rfl) rfl) rfl (Nat.le_of_ble_eq_true rfl) rfl (.two .no (.two .no (.two (.two .no (.loop [.row 3 103 qd,.slot 4 (.num .i64)] .no)) .no))) (fun d=>by kernel_rfl)
theorem HS:FOk Tryz.prog 120 zV:=fok (V:=⟨tt,[(159,zU)],[],13,[]⟩) al ⟨HQ,trivial⟩ mixed Tryz.func120 rfl rfl (enters_of Tryz.func120 (by kernel_rfl) rfl) rfl (Nat.le_of_ble_eq_true rfl) rfl .no (fun d=>by kernel_rfl)
theorem Dr:FOk Tryz.prog 83 vf:=fok (V:=⟨tt,[(120,zV)],[],15,[]⟩) al ⟨HS,trivial⟩ mixed Tryz.func83 rfl rfl (enters_of Tryz.func83 (by kernel_rfl) rfl) rfl (Nat.le_of_ble_eq_true rfl) rfl .no (fun d=>by kernel_rfl)
theorem Bo:FOk Tryz.prog 36 te:=fok (V:=⟨tt,[(83,vf)],[],23,[]⟩) al ⟨Dr,trivial⟩ mixed Tryz.func36 rfl rfl (enters_of Tryz.func36 (by kernel_rfl) rfl) rfl (Nat.le_of_ble_eq_true rfl) rfl (.two .no (.two .no (.two (.two .no (.loop [.row 3 60 y60,.slot 4 (.num .i64)] .no)) .no))) (fun d=>by kernel_rfl)
theorem fp:FOk Tryz.prog 138 cq:=fok (V:=⟨tt,[],[],19,[]⟩) al trivial mixed Tryz.func138 rfl rfl (enters_of Tryz.func138 (by kernel_rfl) rfl) rfl (Nat.le_of_ble_eq_true rfl) rfl (.two .no (.two (.two .no (.loop [.slot 8 (.num .i64)] .no)) .no)) (fun d=>by kernel_rfl)
theorem Ao:FOk Tryz.prog 139 rv:=fok (V:=⟨tt,[],[],8,[]⟩) al trivial mixed Tryz.func139 rfl rfl (enters_of Tryz.func139 (by kernel_rfl) rfl) rfl (Nat.le_of_ble_eq_true rfl) rfl .no (fun d=>by kernel_rfl)
theorem Ds:FOk Tryz.prog 99 vh:=fok (V:=⟨tt,[(138,cq),(139,rv)],[],9,[]⟩) al ⟨fp,Ao,trivial⟩ mixed Tryz.func99 rfl rfl (enters_of Tryz.func99 (by kernel_rfl) rfl) rfl (Nat.le_of_ble_eq_true rfl) rfl .no (fun d=>by kernel_rfl)
theorem fX:FOk Tryz.prog 102 fj:=fok (V:=⟨tt,[],[],15,[]⟩) al trivial mixed Tryz.func102 rfl rfl (enters_of Tryz.func102 (by kernel_rfl) rfl) rfl (Nat.le_of_ble_eq_true rfl) rfl .no (fun d=>by kernel_rfl)
theorem xB:FOk Tryz.prog 244 ry:=fok (V:=⟨tt,[(102,fj)],[],5,[]⟩) al ⟨fX,trivial⟩ mixed Tryz.func244 rfl rfl (enters_of Tryz.func244 (by kernel_rfl) rfl) rfl (Nat.le_of_ble_eq_true rfl) rfl .no (fun d=>by kernel_rfl)
theorem HT:FOk Tryz.prog 269 zW:=fok (V:=⟨tt,[(102,fj),(244,ry)],[],48,[]⟩) al ⟨fX,xB,trivial⟩ mixed Tryz.func269 rfl rfl (enters_of Tryz.func269 (by kernel_rfl) rfl) rfl (Nat.le_of_ble_eq_true rfl) rfl (.two .no (.two (.two .no (.two .no (.two .no (.two .no (.two .no (.join [.slot 37 .boo] .no .no)))))) .no)) (fun d=>by kernel_rfl)
theorem l9:FOk Tryz.prog 270 ba:=Fo (f:=ba) (jK (f:=⟨ba.ps,ba.rs,ba.m,none⟩) (enters_of Tryz.func270 (by kernel_rfl) rfl) rfl (fun d=>rfl)) (Jp (V:=⟨tt,[],[(5,.raw)],8,[]⟩) al trivial mixed Tryz.func270 rfl rfl (enters_of Tryz.func270 (by kernel_rfl) rfl) (Nat.le_of_ble_eq_true rfl) .no (fun E bn xs=>by cases bn <;> kernel_rfl))
theorem wH:FOk Tryz.prog 235 sA:=fok (V:=⟨tt,[(269,zW),(270,ba)],[],56,[(294,263,xI)]⟩) al ⟨HT,l9,trivial⟩ mixed Tryz.func235 rfl rfl (enters_of Tryz.func235 (by kernel_rfl) rfl) rfl (Nat.le_of_ble_eq_true rfl) rfl (.two .no (.two .no (.two (.two .no (.loop [.slot 3 (.own 263 XM),.slot 13 (.num .i64)] (.two .no (.two .no (.two (.two .no (.two .no (.two (.two .no (.at [.slot 6 (.num .i64)] (.two (.two .no (.at [.slot 19 .boo] .no)) (.two .no (.two (.two .no (.at [.slot 22 .boo] .no)) .no))))) .no))) .no))))) .no))) (fun d=>by kernel_rfl)
theorem KR:FOk Tryz.prog 297 Cj:=fok (V:=⟨tt,[(235,sA)],[],6,[(294,263,xI)]⟩) al ⟨wH,trivial⟩ mixed Tryz.func297 rfl rfl (enters_of Tryz.func297 (by kernel_rfl) rfl) rfl (Nat.le_of_ble_eq_true rfl) rfl .no (fun d=>by kernel_rfl)
theorem Ap:FOk Tryz.prog 264 rz:=fok (V:=⟨tt,[(297,Cj)],[],11,[]⟩) al ⟨KR,trivial⟩ mixed Tryz.func264 rfl rfl (enters_of Tryz.func264 (by kernel_rfl) rfl) rfl (Nat.le_of_ble_eq_true rfl) rfl .no (fun d=>by kernel_rfl)
theorem tp: ∀n,FOk Tryz.prog 265 (lC n)
 | 0=>jK (f:=lC 0) (enters_of Tryz.func265 (by kernel_rfl) rfl) rfl (fun d=>rfl)
 | n+1=>by
  have ih:=tp n
  exact fok (V:=⟨tt,[(265,(lC n))],[],39,[(294,263,xI)]⟩) al ⟨ih,trivial⟩ mixed Tryz.func265 rfl rfl (enters_of Tryz.func265 (by kernel_rfl) rfl) rfl (Nat.le_of_ble_eq_true rfl) rfl (.two .no (.two .no (.two (.two .no (.loop [.slot 3 (.num .i64),.slot 11 (.num .i64)] (.two .no (.two .no (.two (.at [.slot 3 (.num .i64)] .no) .no))))) .no))) (fun d=>by kernel_rfl)
theorem QL:FOk Tryz.prog 308 Js:=fok (V:=⟨tt,[],[],7,[(294,263,xI)]⟩) al trivial mixed Tryz.func308 rfl rfl (enters_of Tryz.func308 (by kernel_rfl) rfl) rfl (Nat.le_of_ble_eq_true rfl) rfl .no (fun d=>by kernel_rfl)
end R
namespace R
open Go.RowKit
open D
theorem xC: ∀n,FOk Tryz.prog 298 (od n)
 | 0=>jK (f:=od 0) (enters_of Tryz.func298 (by kernel_rfl) rfl) rfl (fun d=>rfl)
 | n+1=>by
  have ih:=xC n
  exact fok (V:=⟨tt,[(298,(od n)),(308,Js)],[],32,[(294,263,xI)]⟩) al ⟨ih,QL,trivial⟩ mixed Tryz.func298 rfl rfl (enters_of Tryz.func298 (by kernel_rfl) rfl) rfl (Nat.le_of_ble_eq_true rfl) rfl .no (fun d=>by kernel_rfl)
theorem rF: ∀n,FOk Tryz.prog 266 (kd n)
 | 0=>jK (f:=kd 0) (enters_of Tryz.func266 (by kernel_rfl) rfl) rfl (fun d=>rfl)
 | n+1=>by
  have ih:=rF n
  exact fok (V:=⟨tt,[(266,(kd n)),(298,(od fK))],[(52,t263)],58,[(294,263,xI)]⟩) al ⟨ih,(xC fK),trivial⟩ mixed Tryz.func266 rfl rfl (enters_of Tryz.func266 (by kernel_rfl) rfl) rfl (Nat.le_of_ble_eq_true rfl) rfl (.two .no (.two .no (.two .no (.two (.two .no (.loop [.slot 41 (.num .i64),.box 3 [(.num .i64),(.num .i64),(.num .i64),(.num .i64),(.own 263 (.tree 294 263 xI))]] .no)) .no)))) (fun d=>by kernel_rfl)
theorem qH: ∀n,FOk Tryz.prog 299 (iZ n)
 | 0=>jK (f:=iZ 0) (enters_of Tryz.func299 (by kernel_rfl) rfl) rfl (fun d=>rfl)
 | n+1=>by
  have ih:=qH n
  exact fok (V:=⟨tt,[(299,(iZ n))],[],32,[(294,263,xI)]⟩) al ⟨ih,trivial⟩ mixed Tryz.func299 rfl rfl (enters_of Tryz.func299 (by kernel_rfl) rfl) rfl (Nat.le_of_ble_eq_true rfl) rfl (.two (.two .no (.loop [.slot 11 (.num .i64),.box 1 [(.own 188 xI)]] .no)) .no) (fun d=>by kernel_rfl)
theorem Dt:FOk Tryz.prog 267 vi:=fok (V:=⟨tt,[(299,(iZ fK))],[],8,[(294,263,xI)]⟩) al ⟨(qH fK),trivial⟩ mixed Tryz.func267 rfl rfl (enters_of Tryz.func267 (by kernel_rfl) rfl) rfl (Nat.le_of_ble_eq_true rfl) rfl .no (fun d=>by kernel_rfl)
theorem Bp:FOk Tryz.prog 233 tf:=fok (V:=⟨tt,[(235,sA),(264,rz),(265,(lC fK)),(266,(kd fK)),(267,vi)],[],25,[(294,263,xI)]⟩) al ⟨wH,Ap,(tp fK),(rF fK),Dt,trivial⟩ mixed Tryz.func233 rfl rfl (enters_of Tryz.func233 (by kernel_rfl) rfl) rfl (Nat.le_of_ble_eq_true rfl) rfl .no (fun d=>by kernel_rfl)
theorem sG:FOk Tryz.prog 268 mf:=fok (V:=⟨tt,[],[],31,[]⟩) al trivial mixed Tryz.func268 rfl rfl (enters_of Tryz.func268 (by kernel_rfl) rfl) rfl (Nat.le_of_ble_eq_true rfl) rfl (.two .no (.loop [.slot 12 (.num .i64),.par 3 [3] 3 y3] (.two .no (.two .no (.two (.at [.par 3 [3] 3 y3] .no) .no))))) (fun d=>by kernel_rfl)
theorem nD: ∀n,FOk Tryz.prog 234 (fJ n)
 | 0=>jK (f:=fJ 0) (enters_of Tryz.func234 (by kernel_rfl) rfl) rfl (fun d=>rfl)
 | n+1=>by
  have ih:=nD n
  exact fok (V:=⟨tt,[(234,(fJ n)),(268,mf)],[],163,[(294,263,xI)]⟩) al ⟨ih,sG,trivial⟩ mixed Tryz.func234 rfl rfl (enters_of Tryz.func234 (by kernel_rfl) rfl) rfl (Nat.le_of_ble_eq_true rfl) rfl (.two .no (.two (.two .no (.two .no (.two .no (.two .no (.two .no (.two .no (.two .no (.two .no (.two (.two .no (.two .no (.two .no (.two (.two .no (.at [.box 10 [(.num .i64),(.num .i64),.boo]] .no)) (.two (.two .no (.at [.box 10 [(.num .i64),(.num .i64),.boo]] .no)) .no))))) .no))))))))) .no)) (fun d=>by kernel_rfl)
theorem vr:FOk Tryz.prog 207 oe:=fok (V:=⟨tt,[(233,tf),(234,(fJ fK)),(235,sA)],[],49,[(294,263,xI)]⟩) al ⟨Bp,(nD fK),wH,trivial⟩ mixed Tryz.func207 rfl rfl (enters_of Tryz.func207 (by kernel_rfl) rfl) rfl (Nat.le_of_ble_eq_true rfl) rfl (.two .no (.two .no (.two .no (.two .no (.two (.two .no (.loop [.slot 6 (.num .i64),.slot 22 (.num .i64)] (.two .no (.two .no (.two (.at [.slot 6 (.num .i64)] .no) .no))))) .no))))) (fun d=>by kernel_rfl)
theorem qI:FOk Tryz.prog 236 l6:=fok (V:=⟨tt,[],[],96,[]⟩) al trivial mixed Tryz.func236 rfl rfl (enters_of Tryz.func236 (by kernel_rfl) rfl) rfl (Nat.le_of_ble_eq_true rfl) rfl (.two .no (.two .no (.two .no (.two .no (.two (.two .no (.loop [.slot 10 (.own 3 y3),.slot 11 (.map ⟨3,3,.int,.int⟩),.slot 13 (.num .i64),.box 12 [(.num .i64),(.own 4 y4),(.own 26 y26)]] (.two .no (.two (.two .no (.two (.two .no (.loop [.slot 10 (.own 3 y3),.slot 11 (.map ⟨3,3,.int,.int⟩),.slot 14 (.own 3 y3),.slot 15 (.num .i64)] (.two .no (.join [.slot 10 (.own 3 y3),.slot 11 (.map ⟨3,3,.int,.int⟩),.slot 14 (.own 3 y3)] (.two .no (.two .no (.two .no (.join [.slot 10 (.own 3 y3),.slot 11 (.map ⟨3,3,.int,.int⟩),.slot 18 (.num .i64)] .no .no)))) .no)))) .no)) .no)))) .no))))) (fun d=>by kernel_rfl)
theorem rG:FOk Tryz.prog 237 lQ:=fok (V:=⟨tt,[],[],20,[]⟩) al trivial mixed Tryz.func237 rfl rfl (enters_of Tryz.func237 (by kernel_rfl) rfl) rfl (Nat.le_of_ble_eq_true rfl) rfl .no (fun d=>by kernel_rfl)
theorem ua:FOk Tryz.prog 239 nv:=fok (V:=⟨tt,[],[],61,[]⟩) al trivial mixed Tryz.func239 rfl rfl (enters_of Tryz.func239 (by kernel_rfl) rfl) rfl (Nat.le_of_ble_eq_true rfl) rfl (.two .no (.two .no (.join [.slot 7 (.num .i64)] .no (.two (.two .no (.loop [.slot 7 (.num .i64),.slot 21 (.num .i64)] (.two .no (.two .no (.join [.slot 7 (.num .i64)] .no .no))))) (.two .no (.two (.two .no (.loop [.slot 10 (.num .i64),.slot 39 (.num .i64)] (.two .no (.two .no (.join [.slot 10 (.num .i64)] .no .no))))) .no)))))) (fun d=>by kernel_rfl)
theorem wI:FOk Tryz.prog 238 o9:=fok (V:=⟨tt,[(239,nv)],[],15,[]⟩) al ⟨ua,trivial⟩ mixed Tryz.func238 rfl rfl (enters_of Tryz.func238 (by kernel_rfl) rfl) rfl (Nat.le_of_ble_eq_true rfl) rfl .no (fun d=>by kernel_rfl)
theorem Aq:FOk Tryz.prog 208 rA:=fok (V:=⟨tt,[(236,l6),(237,lQ),(238,o9)],[],13,[]⟩) al ⟨qI,rG,wI,trivial⟩ mixed Tryz.func208 rfl rfl (enters_of Tryz.func208 (by kernel_rfl) rfl) rfl (Nat.le_of_ble_eq_true rfl) rfl .no (fun d=>by kernel_rfl)
theorem mH:FOk Tryz.prog 309 bh:=Fo (f:=bh) (jK (f:=⟨bh.ps,bh.rs,bh.m,none⟩) (enters_of Tryz.func309 (by kernel_rfl) rfl) rfl (fun d=>rfl)) (Jp (V:=⟨tt,[],[(5,.raw)],8,[]⟩) al trivial mixed Tryz.func309 rfl rfl (enters_of Tryz.func309 (by kernel_rfl) rfl) (Nat.le_of_ble_eq_true rfl) .no (fun E bn xs=>by cases bn <;> kernel_rfl))
theorem vt:FOk Tryz.prog 300 oh:=fok (V:=⟨tt,[(309,bh)],[],48,[]⟩) al ⟨mH,trivial⟩ mixed Tryz.func300 rfl rfl (enters_of Tryz.func300 (by kernel_rfl) rfl) rfl (Nat.le_of_ble_eq_true rfl) rfl (.two .no (.two .no (.two (.two .no (.loop [.slot 4 .boo,.row 3 4 y4] (.two .no (.two .no (.two .no (.loop [.slot 4 .boo,.slot 16 (.num .i64),.row 3 4 y4] (.two .no (.two .no (.two (.two .no (.two .no (.loop [.slot 4 .boo,.slot 23 (.num .i64),.row 3 4 y4] (.two .no (.two .no (.two (.at [.slot 4 .boo,.row 3 4 y4] .no) .no)))))) .no))))))))) .no))) (fun d=>by kernel_rfl)
theorem jB:FOk Tryz.prog 310 dQ:=fok (V:=⟨tt,[],[],19,[]⟩) al trivial mixed Tryz.func310 rfl rfl (enters_of Tryz.func310 (by kernel_rfl) rfl) rfl (Nat.le_of_ble_eq_true rfl) rfl (.two .no (.two (.two .no (.loop [.slot 8 (.num .i64)] .no)) .no)) (fun d=>by kernel_rfl)
theorem dU:FOk Tryz.prog 152 cF:=fok (V:=⟨tt,[],[],26,[]⟩) al trivial mixed Tryz.func152 rfl rfl (enters_of Tryz.func152 (by kernel_rfl) rfl) rfl (Nat.le_of_ble_eq_true rfl) rfl (.two .no (.two .no (.two (.two .no (.loop [.slot 13 (.num .i64)] .no)) .no))) (fun d=>by kernel_rfl)
end R
namespace R
open Go.RowKit
open D
theorem qM:FOk Tryz.prog 311 kq:=fok (V:=⟨tt,[(152,cF)],[],7,[]⟩) al ⟨dU,trivial⟩ mixed Tryz.func311 rfl rfl (enters_of Tryz.func311 (by kernel_rfl) rfl) rfl (Nat.le_of_ble_eq_true rfl) rfl .no (fun d=>by kernel_rfl)
theorem sH:FOk Tryz.prog 301 mg:=fok (V:=⟨tt,[(310,dQ),(311,kq)],[],70,[]⟩) al ⟨jB,qM,trivial⟩ mixed Tryz.func301 rfl rfl (enters_of Tryz.func301 (by kernel_rfl) rfl) rfl (Nat.le_of_ble_eq_true rfl) rfl (.two .no (.two .no (.two .no (.two (.two .no (.loop [.slot 6 (.own 26 y26),.slot 7 (.own 3 y3),.slot 18 (.num .i64)] (.two .no (.two .no (.join [.slot 6 (.own 26 y26),.slot 7 (.own 3 y3)] (.two .no (.two .no (.two .no (.two (.two .no (.loop [.slot 36 (.num .i64),.box 10 [(.own 3 y3)]] (.two .no (.two .no (.two (.two .no (.join [.slot 12 (.num .i64)] .no .no)) .no))))) (.two .no (.join [.slot 6 (.own 26 y26),.slot 13 (.num .i64),.gone 10] .no .no)))))) .no))))) .no)))) (fun d=>by kernel_rfl)
theorem rH:FOk Tryz.prog 271 lR:=fok (V:=⟨tt,[(300,oh),(301,mg)],[],49,[]⟩) al ⟨vt,sH,trivial⟩ mixed Tryz.func271 rfl rfl (enters_of Tryz.func271 (by kernel_rfl) rfl) rfl (Nat.le_of_ble_eq_true rfl) rfl (.two .no (.two .no (.two (.two .no (.loop [.slot 3 (.own 3 y3),.slot 13 (.num .i64)] (.two .no (.two .no (.join [.slot 3 (.own 3 y3)] .no .no))))) (.two .no (.loop [.slot 3 (.own 3 y3),.slot 6 (.num .i64)] .no))))) (fun d=>by kernel_rfl)
theorem ub:FOk Tryz.prog 277 nw:=fok (V:=⟨tt,[],[],17,[]⟩) al trivial mixed Tryz.func277 rfl rfl (enters_of Tryz.func277 (by kernel_rfl) rfl) rfl (Nat.le_of_ble_eq_true rfl) rfl .no (fun d=>by kernel_rfl)
theorem uc:FOk Tryz.prog 278 ny:=fok (V:=⟨tt,[],[],51,[]⟩) al trivial mixed Tryz.func278 rfl rfl (enters_of Tryz.func278 (by kernel_rfl) rfl) rfl (Nat.le_of_ble_eq_true rfl) rfl .no (fun d=>by kernel_rfl)
theorem wJ:FOk Tryz.prog 242 pa:=fok (V:=⟨tt,[(277,nw),(278,ny)],[],30,[]⟩) al ⟨ub,uc,trivial⟩ mixed Tryz.func242 rfl rfl (enters_of Tryz.func242 (by kernel_rfl) rfl) rfl (Nat.le_of_ble_eq_true rfl) rfl .no (fun d=>by kernel_rfl)
theorem gQ:FOk Tryz.prog 214 dJ:=fok (V:=⟨tt,[(242,pa)],[(44,.bool)],48,[]⟩) al ⟨wJ,trivial⟩ mixed Tryz.func214 rfl rfl (enters_of Tryz.func214 (by kernel_rfl) rfl) rfl (Nat.le_of_ble_eq_true rfl) rfl (.two .no (.two .no (.two .no (.two .no (.two .no (.two .no (.two (.loop [.slot 8 (.num .i64),.row 7 3 (.int .i64)] .no) .no))))))) (fun d=>by kernel_rfl)
theorem HU:FOk Tryz.prog 272 zX:=fok (V:=⟨tt,[(214,dJ)],[],6,[]⟩) al ⟨gQ,trivial⟩ mixed Tryz.func272 rfl rfl (enters_of Tryz.func272 (by kernel_rfl) rfl) rfl (Nat.le_of_ble_eq_true rfl) rfl .no (fun d=>by kernel_rfl)
theorem nM:FOk Tryz.prog 274 ix:=fok (V:=⟨tt,[],[],19,[]⟩) al trivial mixed Tryz.func274 rfl rfl (enters_of Tryz.func274 (by kernel_rfl) rfl) rfl (Nat.le_of_ble_eq_true rfl) rfl (.two .no (.two (.two .no (.loop [.slot 8 (.num .i64)] .no)) .no)) (fun d=>by kernel_rfl)
theorem pj:FOk Tryz.prog 273 ju:=fok (V:=⟨tt,[(274,ix)],[],7,[]⟩) al ⟨nM,trivial⟩ mixed Tryz.func273 rfl rfl (enters_of Tryz.func273 (by kernel_rfl) rfl) rfl (Nat.le_of_ble_eq_true rfl) rfl .no (fun d=>by kernel_rfl)
theorem pn:FOk Tryz.prog 275 jv:=fok (V:=⟨tt,[],[],12,[]⟩) al trivial mixed Tryz.func275 rfl rfl (enters_of Tryz.func275 (by kernel_rfl) rfl) rfl (Nat.le_of_ble_eq_true rfl) rfl .no (fun d=>by kernel_rfl)
theorem kg:FOk Tryz.prog 217 gf:=fok (V:=⟨tt,[(244,ry)],[],22,[]⟩) al ⟨xB,trivial⟩ mixed Tryz.func217 rfl rfl (enters_of Tryz.func217 (by kernel_rfl) rfl) rfl (Nat.le_of_ble_eq_true rfl) rfl .no (fun d=>by kernel_rfl)
theorem po:FOk Tryz.prog 276 jw:=fok (V:=⟨tt,[(217,gf)],[],29,[]⟩) al ⟨kg,trivial⟩ mixed Tryz.func276 rfl rfl (enters_of Tryz.func276 (by kernel_rfl) rfl) rfl (Nat.le_of_ble_eq_true rfl) rfl .no (fun d=>by kernel_rfl)
theorem qN:FOk Tryz.prog 240 kt:=fok (V:=⟨tt,[(236,l6),(271,lR),(272,zX),(273,ju),(275,jv),(276,jw)],[],31,[]⟩) al ⟨qI,rH,HU,pj,pn,po,trivial⟩ mixed Tryz.func240 rfl rfl (enters_of Tryz.func240 (by kernel_rfl) rfl) rfl (Nat.le_of_ble_eq_true rfl) rfl .no (fun d=>by kernel_rfl)
theorem ND:FOk Tryz.prog 209 Ft:=fok (V:=⟨tt,[(240,kt)],[],13,[]⟩) al ⟨qN,trivial⟩ mixed Tryz.func209 rfl rfl (enters_of Tryz.func209 (by kernel_rfl) rfl) rfl (Nat.le_of_ble_eq_true rfl) rfl .no (fun d=>by kernel_rfl)
theorem Ar:FOk Tryz.prog 175 rB:=fok (V:=⟨tt,[(207,oe),(208,rA),(209,Ft)],[],28,[]⟩) al ⟨vr,Aq,ND,trivial⟩ mixed Tryz.func175 rfl rfl (enters_of Tryz.func175 (by kernel_rfl) rfl) rfl (Nat.le_of_ble_eq_true rfl) rfl .no (fun d=>by kernel_rfl)
theorem fR:FOk Tryz.prog 176 cD:=fok (V:=⟨tt,[],[],19,[]⟩) al trivial mixed Tryz.func176 rfl rfl (enters_of Tryz.func176 (by kernel_rfl) rfl) rfl (Nat.le_of_ble_eq_true rfl) rfl (.two .no (.two (.two .no (.loop [.slot 8 (.num .i64)] .no)) .no)) (fun d=>by kernel_rfl)
end R
namespace R
open Go.RowKit
open D
theorem mI:FOk Tryz.prog 210 gg:=fok (V:=⟨tt,[],[],26,[]⟩) al trivial mixed Tryz.func210 rfl rfl (enters_of Tryz.func210 (by kernel_rfl) rfl) rfl (Nat.le_of_ble_eq_true rfl) rfl (.two .no (.two .no (.two (.two .no (.loop [.slot 13 (.num .i64)] .no)) .no))) (fun d=>by kernel_rfl)
theorem eC:FOk Tryz.prog 211 bU:=fok (V:=⟨tt,[],[],32,[]⟩) al trivial mixed Tryz.func211 rfl rfl (enters_of Tryz.func211 (by kernel_rfl) rfl) rfl (Nat.le_of_ble_eq_true rfl) rfl (.two .no (.two .no (.two (.two .no (.loop [.slot 17 (.num .i64)] .no)) .no))) (fun d=>by kernel_rfl)
theorem ud:FOk Tryz.prog 212 nz:=fok (V:=⟨tt,[(152,cF)],[],8,[]⟩) al ⟨dU,trivial⟩ mixed Tryz.func212 rfl rfl (enters_of Tryz.func212 (by kernel_rfl) rfl) rfl (Nat.le_of_ble_eq_true rfl) rfl .no (fun d=>by kernel_rfl)
theorem pq:FOk Tryz.prog 178 kM:=fok (V:=⟨tt,[(210,gg),(211,bU),(212,nz)],[],24,[]⟩) al ⟨mI,eC,ud,trivial⟩ mixed Tryz.func178 rfl rfl (enters_of Tryz.func178 (by kernel_rfl) rfl) rfl (Nat.le_of_ble_eq_true rfl) rfl .no (fun d=>by kernel_rfl)
theorem FJ:FOk Tryz.prog 177 xx:=fok (V:=⟨tt,[(178,kM)],[],7,[]⟩) al ⟨pq,trivial⟩ mixed Tryz.func177 rfl rfl (enters_of Tryz.func177 (by kernel_rfl) rfl) rfl (Nat.le_of_ble_eq_true rfl) rfl .no (fun d=>by kernel_rfl)
theorem FK:FOk Tryz.prog 179 xy:=fok (V:=⟨tt,[],[],8,[]⟩) al trivial mixed Tryz.func179 rfl rfl (enters_of Tryz.func179 (by kernel_rfl) rfl) rfl (Nat.le_of_ble_eq_true rfl) rfl .no (fun d=>by kernel_rfl)
theorem KS:FOk Tryz.prog 140 Ck:=fok (V:=⟨tt,[(102,fj),(175,rB),(176,cD),(177,xx),(179,xy)],[],80,[]⟩) al ⟨fX,Ar,fR,FJ,FK,trivial⟩ mixed Tryz.func140 rfl rfl (enters_of Tryz.func140 (by kernel_rfl) rfl) rfl (Nat.le_of_ble_eq_true rfl) rfl (.two .no (.two .no (.two (.two .no (.loop [.slot 13 (.num .i64),.box 4 [(.own 92 y92),(.own 146 Gw)]] (.two .no (.two .no (.two (.two .no (.two .no (.two .no (.two .no (.join [.slot 9 (.num .i64),.box 4 [(.own 92 y92),(.own 146 Gw)],.gone 7] .no .no))))) .no))))) .no))) (fun d=>by kernel_rfl)
theorem cr:FOk Tryz.prog 180 a7:=fok (V:=⟨tt,[],[],32,[]⟩) al trivial mixed Tryz.func180 rfl rfl (enters_of Tryz.func180 (by kernel_rfl) rfl) rfl (Nat.le_of_ble_eq_true rfl) rfl (.two .no (.two .no (.two (.two .no (.loop [.slot 17 (.num .i64)] .no)) .no))) (fun d=>by kernel_rfl)
theorem bW:FOk Tryz.prog 181 aX:=fok (V:=⟨tt,[],[],32,[]⟩) al trivial mixed Tryz.func181 rfl rfl (enters_of Tryz.func181 (by kernel_rfl) rfl) rfl (Nat.le_of_ble_eq_true rfl) rfl (.two .no (.two .no (.two (.two .no (.loop [.slot 17 (.num .i64)] .no)) .no))) (fun d=>by kernel_rfl)
theorem lS:FOk Tryz.prog 241 fq:=fok (V:=⟨tt,[],[],26,[]⟩) al trivial mixed Tryz.func241 rfl rfl (enters_of Tryz.func241 (by kernel_rfl) rfl) rfl (Nat.le_of_ble_eq_true rfl) rfl (.two .no (.two .no (.two (.two .no (.loop [.slot 13 (.num .i64)] .no)) .no))) (fun d=>by kernel_rfl)
theorem Bq:FOk Tryz.prog 213 tg:=fok (V:=⟨tt,[(241,fq)],[],10,[]⟩) al ⟨lS,trivial⟩ mixed Tryz.func213 rfl rfl (enters_of Tryz.func213 (by kernel_rfl) rfl) rfl (Nat.le_of_ble_eq_true rfl) rfl .no (fun d=>by kernel_rfl)
theorem xR:FOk Tryz.prog 182 qB:=fok (V:=⟨tt,[(213,tg)],[],24,[]⟩) al ⟨Bq,trivial⟩ mixed Tryz.func182 rfl rfl (enters_of Tryz.func182 (by kernel_rfl) rfl) rfl (Nat.le_of_ble_eq_true rfl) rfl .no (fun d=>by kernel_rfl)
theorem ue:FOk Tryz.prog 141 nA:=fok (V:=⟨tt,[(178,kM),(180,a7),(181,aX),(182,qB)],[],17,[]⟩) al ⟨pq,cr,bW,xR,trivial⟩ mixed Tryz.func141 rfl rfl (enters_of Tryz.func141 (by kernel_rfl) rfl) rfl (Nat.le_of_ble_eq_true rfl) rfl .no (fun d=>by kernel_rfl)
theorem uf:FOk Tryz.prog 100 nB:=fok (V:=⟨tt,[(140,Ck),(141,nA)],[],17,[]⟩) al ⟨KS,ue,trivial⟩ mixed Tryz.func100 rfl rfl (enters_of Tryz.func100 (by kernel_rfl) rfl) rfl (Nat.le_of_ble_eq_true rfl) rfl .no (fun d=>by kernel_rfl)
theorem rI:FOk Tryz.prog 142 oi:=fok (V:=⟨tt,[],[],6,[]⟩) al trivial mixed Tryz.func142 rfl rfl (enters_of Tryz.func142 (by kernel_rfl) rfl) rfl (Nat.le_of_ble_eq_true rfl) rfl .no (fun d=>by kernel_rfl)
theorem wK:FOk Tryz.prog 101 pb:=fok (V:=⟨tt,[(142,oi)],[],29,[]⟩) al ⟨rI,trivial⟩ mixed Tryz.func101 rfl rfl (enters_of Tryz.func101 (by kernel_rfl) rfl) rfl (Nat.le_of_ble_eq_true rfl) rfl (.two .no (.two .no (.two (.two .no (.loop [.slot 16 (.num .i64),.box 3 [(.num .i64),(.own 4 y4),(.own 26 y26)]] .no)) .no))) (fun d=>by kernel_rfl)
theorem vu:FOk Tryz.prog 54 oj:=fok (V:=⟨tt,[(99,vh),(100,nB),(101,pb)],[],29,[]⟩) al ⟨Ds,uf,wK,trivial⟩ mixed Tryz.func54 rfl rfl (enters_of Tryz.func54 (by kernel_rfl) rfl) rfl (Nat.le_of_ble_eq_true rfl) rfl .no (fun d=>by kernel_rfl)
end R
namespace R
open Go.RowKit
open D
theorem KT:FOk Tryz.prog 103 Cl:=fok (V:=⟨tt,[(102,fj)],[],27,[]⟩) al ⟨fX,trivial⟩ mixed Tryz.func103 rfl rfl (enters_of Tryz.func103 (by kernel_rfl) rfl) rfl (Nat.le_of_ble_eq_true rfl) rfl .no (fun d=>by kernel_rfl)
theorem ma:FOk Tryz.prog 55 ja:=fok (V:=⟨tt,[(102,fj),(103,Cl)],[],59,[]⟩) al ⟨fX,KT,trivial⟩ mixed Tryz.func55 rfl rfl (enters_of Tryz.func55 (by kernel_rfl) rfl) rfl (Nat.le_of_ble_eq_true rfl) rfl (.two .no (.two .no (.two (.two .no (.loop [.slot 14 (.num .i64)] .no)) (.two (.two .no (.loop [.slot 25 (.num .i64)] .no)) .no)))) (fun d=>by kernel_rfl)
theorem sI:FOk Tryz.prog 143 mi:=fok (V:=⟨tt,[(102,fj)],[],52,[]⟩) al ⟨fX,trivial⟩ mixed Tryz.func143 rfl rfl (enters_of Tryz.func143 (by kernel_rfl) rfl) rfl (Nat.le_of_ble_eq_true rfl) rfl (.two .no (.two .no (.two .no (.two (.two .no (.loop [.slot 32 (.num .i64)] (.two .no (.two .no (.two (.two .no (.two (.two .no (.loop [.slot 38 (.num .i64)] .no)) .no)) .no))))) .no)))) (fun d=>by kernel_rfl)
theorem Cu:FOk Tryz.prog 104 wz:=fok (V:=⟨tt,[(55,ja),(102,fj),(143,mi)],[],29,[]⟩) al ⟨ma,fX,sI,trivial⟩ mixed Tryz.func104 rfl rfl (enters_of Tryz.func104 (by kernel_rfl) rfl) rfl (Nat.le_of_ble_eq_true rfl) rfl (.two .no (.two (.two .no (.loop [.slot 11 (.num .i64)] .no)) .no)) (fun d=>by kernel_rfl)
theorem KU:FOk Tryz.prog 183 Cm:=fok (V:=⟨tt,[(214,dJ)],[(34,.bool)],67,[]⟩) al ⟨gQ,trivial⟩ mixed Tryz.func183 rfl rfl (enters_of Tryz.func183 (by kernel_rfl) rfl) rfl (Nat.le_of_ble_eq_true rfl) rfl (.two .no (.two .no (.two .no (.two (.two .no (.loop [.slot 6 (.own 3 (.int .i64)),.slot 18 (.num .i64),.row 5 3 y3] .no)) (.two (.loop [.slot 6 (.own 3 (.int .i64)),.row 5 3 y3] (.two .no (.two (.two .no (.loop [.slot 6 (.own 3 y3),.slot 42 (.num .i64),.row 5 3 y3] (.two .no (.two .no (.two (.at [.slot 6 (.own 3 y3),.row 5 3 y3] .no) .no))))) .no))) .no))))) (fun d=>by kernel_rfl)
theorem ug:FOk Tryz.prog 185 qg:=fok (V:=⟨tt,[],[],22,[]⟩) al trivial mixed Tryz.func185 rfl rfl (enters_of Tryz.func185 (by kernel_rfl) rfl) rfl (Nat.le_of_ble_eq_true rfl) rfl (.two .no (.two .no (.two (.two .no (.loop [.slot 3 (.own 3 y3),.slot 4 (.num .i64)] (.two .no (.join [.slot 3 (.own 3 y3)] .no .no)))) .no))) (fun d=>by kernel_rfl)
theorem NF:FOk Tryz.prog 243 Fu:=fok (V:=⟨tt,[],[],13,[]⟩) al trivial mixed Tryz.func243 rfl rfl (enters_of Tryz.func243 (by kernel_rfl) rfl) rfl (Nat.le_of_ble_eq_true rfl) rfl .no (fun d=>by kernel_rfl)
theorem QM:FOk Tryz.prog 215 Jt:=fok (V:=⟨tt,[(243,Fu)],[],57,[]⟩) al ⟨NF,trivial⟩ mixed Tryz.func215 rfl rfl (enters_of Tryz.func215 (by kernel_rfl) rfl) rfl (Nat.le_of_ble_eq_true rfl) rfl (.two .no (.two .no (.two (.two .no (.loop [.slot 13 (.num .i64),.row 3 238 XL] .no)) .no))) (fun d=>by kernel_rfl)
theorem As:FOk Tryz.prog 186 tV:=fok (V:=⟨tt,[(217,gf)],[],29,[]⟩) al ⟨kg,trivial⟩ mixed Tryz.func186 rfl rfl (enters_of Tryz.func186 (by kernel_rfl) rfl) rfl (Nat.le_of_ble_eq_true rfl) rfl (.two .no (.two .no (.two (.two .no (.loop [.slot 7 (.num .i64),.slot 8 (.num .i64)] .no)) .no))) (fun d=>by kernel_rfl)
theorem NG:FOk Tryz.prog 216 Fv:=fok (V:=⟨tt,[(185,qg),(186,tV),(217,gf)],[],45,[]⟩) al ⟨ug,As,kg,trivial⟩ mixed Tryz.func216 rfl rfl (enters_of Tryz.func216 (by kernel_rfl) rfl) rfl (Nat.le_of_ble_eq_true rfl) rfl (.two .no (.two .no (.two (.two .no (.loop [.slot 9 (.num .i64),.slot 18 (.num .i64)] (.two .no (.two .no (.two (.two .no (.two .no (.loop [.slot 9 (.num .i64),.slot 28 (.num .i64)] (.two .no (.two .no (.join [.slot 9 (.num .i64)] .no .no)))))) .no))))) .no))) (fun d=>by kernel_rfl)
theorem xS:FOk Tryz.prog 184 qC:=fok (V:=⟨tt,[(185,qg),(215,Jt),(216,Fv)],[],86,[]⟩) al ⟨ug,QM,NG,trivial⟩ mixed Tryz.func184 rfl rfl (enters_of Tryz.func184 (by kernel_rfl) rfl) rfl (Nat.le_of_ble_eq_true rfl) rfl (.two .no (.two .no (.two .no (.two (.two .no (.loop [.slot 26 (.num .i64),.row 6 26 y26] (.two .no (.two .no (.two (.two .no (.two .no (.loop [.slot 9 (.num .i64),.row 6 26 y26] (.two .no (.two (.two .no (.loop [.slot 38 (.num .i64),.row 6 26 y26] (.two .no (.two .no (.two (.two .no (.two .no (.loop [.slot 55 (.num .i64),.row 6 26 y26] .no))) .no))))) .no))))) .no))))) .no)))) (fun d=>by kernel_rfl)
theorem wL:FOk Tryz.prog 144 pc:=YX (V:=⟨tt,[(104,wz),(183,Cm),(184,qC)],[(1000000,.raw)],26,[]⟩) al ⟨Cu,KU,xS,trivial⟩ mixed Tryz.func144 rfl rfl (enters_of Tryz.func144 (by kernel_rfl) rfl) ⟨rfl,rfl⟩ (Nat.le_of_ble_eq_true rfl) rfl .no (fun d=>by kernel_rfl)
theorem Du:FOk Tryz.prog 145 vj:=fok (V:=⟨tt,[(185,qg),(186,tV)],[],35,[]⟩) al ⟨ug,As,trivial⟩ mixed Tryz.func145 rfl rfl (enters_of Tryz.func145 (by kernel_rfl) rfl) rfl (Nat.le_of_ble_eq_true rfl) rfl (.two .no (.two (.two .no (.loop [.slot 14 (.num .i64)] (.two .no (.two .no (.two (.two .no (.two .no (.loop [.slot 24 (.num .i64)] .no))) .no))))) .no)) (fun d=>by kernel_rfl)
theorem oH:FOk Tryz.prog 187 iP:=Nz Hr (enters_of Tryz.func187 (by kernel_rfl) rfl) 3
theorem mJ:FOk Tryz.prog 188 gh:=fok (V:=⟨tt,[],[(28,.raw),(56,.raw),(59,.raw)],61,[]⟩) al trivial mixed Tryz.func188 rfl rfl (enters_of Tryz.func188 (by kernel_rfl) rfl) rfl (Nat.le_of_ble_eq_true rfl) rfl (.two .no (.two .no (.two (.two .no (.loop [.slot 3 (.num .i64)] (.two .no (.two (.two .no (.two (.two .no (.two (.two .no (.loop [.slot 3 (.num .i64),.slot 5 (.num .i64),.row 0 3 y3] (.two .no (.two (.at [.slot 3 (.num .i64),.row 0 3 y3] .no) .no)))) .no)) .no)) .no)))) .no))) (fun d=>by kernel_rfl)
theorem Dv:FOk Tryz.prog 146 vk:=fok (V:=⟨tt,[(142,oi),(187,iP),(188,gh)],[],10,[]⟩) al ⟨rI,oH,mJ,trivial⟩ mixed Tryz.func146 rfl rfl (enters_of Tryz.func146 (by kernel_rfl) rfl) rfl (Nat.le_of_ble_eq_true rfl) rfl .no (fun d=>by kernel_rfl)
theorem Au:FOk Tryz.prog 105 rC:=fok (V:=⟨tt,[(144,pc),(145,vj),(146,vk)],[],51,[]⟩) al ⟨wL,Du,Dv,trivial⟩ mixed Tryz.func105 rfl rfl (enters_of Tryz.func105 (by kernel_rfl) rfl) rfl (Nat.le_of_ble_eq_true rfl) rfl (.two .no (.two .no (.two .no (.two (.two .no (.loop [.slot 7 (.own 3 y3),.slot 20 (.num .i64)] (.two .no (.two .no (.two (.at [.slot 7 (.own 3 y3)] .no) .no))))) .no)))) (fun d=>by kernel_rfl)
end R
namespace R
open Go.RowKit
open D
theorem Br:FOk Tryz.prog 56 th:=fok (V:=⟨tt,[(104,wz),(105,rC)],[],38,[]⟩) al ⟨Cu,Au,trivial⟩ mixed Tryz.func56 rfl rfl (enters_of Tryz.func56 (by kernel_rfl) rfl) rfl (Nat.le_of_ble_eq_true rfl) rfl (.two .no (.two .no (.two .no (.two (.two .no (.loop [.slot 5 (.own 103 qd),.slot 17 (.num .i64)] (.two .no (.two .no (.two (.two .no (.two .no (.loop [.slot 5 (.own 103 qd),.slot 25 (.num .i64)] .no))) .no))))) .no)))) (fun d=>by kernel_rfl)
theorem xT:FOk Tryz.prog 13 qD:=fok (V:=⟨tt,[(54,oj),(55,ja),(56,th)],[],26,[]⟩) al ⟨vu,ma,Br,trivial⟩ mixed Tryz.func13 rfl rfl (enters_of Tryz.func13 (by kernel_rfl) rfl) rfl (Nat.le_of_ble_eq_true rfl) rfl .no (fun d=>by kernel_rfl)
theorem oq:FOk Tryz.prog 114 ke:=fok (V:=⟨tt,[(55,ja),(102,fj),(152,cF)],[],43,[]⟩) al ⟨ma,fX,dU,trivial⟩ mixed Tryz.func114 rfl rfl (enters_of Tryz.func114 (by kernel_rfl) rfl) rfl (Nat.le_of_ble_eq_true rfl) rfl (.two .no (.two .no (.two .no (.two (.two .no (.loop [.slot 24 (.num .i64)] .no)) .no)))) (fun d=>by kernel_rfl)
theorem wM:FOk Tryz.prog 78 pd:=fok (V:=⟨tt,[(114,ke)],[],13,[]⟩) al ⟨oq,trivial⟩ mixed Tryz.func78 rfl rfl (enters_of Tryz.func78 (by kernel_rfl) rfl) rfl (Nat.le_of_ble_eq_true rfl) rfl .no (fun d=>by kernel_rfl)
theorem Dw:FOk Tryz.prog 160 vl:=fok (V:=⟨tt,[(142,oi)],[],11,[]⟩) al ⟨rI,trivial⟩ mixed Tryz.func160 rfl rfl (enters_of Tryz.func160 (by kernel_rfl) rfl) rfl (Nat.le_of_ble_eq_true rfl) rfl .no (fun d=>by kernel_rfl)
theorem HV:FOk Tryz.prog 121 zY:=fok (V:=⟨tt,[(78,pd),(102,fj),(114,ke),(160,vl)],[],28,[]⟩) al ⟨wM,fX,oq,Dw,trivial⟩ mixed Tryz.func121 rfl rfl (enters_of Tryz.func121 (by kernel_rfl) rfl) rfl (Nat.le_of_ble_eq_true rfl) rfl .no (fun d=>by kernel_rfl)
theorem Dx:FOk Tryz.prog 84 vm:=fok (V:=⟨tt,[(13,qD),(121,zY)],[],26,[]⟩) al ⟨xT,HV,trivial⟩ mixed Tryz.func84 rfl rfl (enters_of Tryz.func84 (by kernel_rfl) rfl) rfl (Nat.le_of_ble_eq_true rfl) rfl .no (fun d=>by kernel_rfl)
theorem Av:FOk Tryz.prog 198 rD:=fok (V:=⟨tt,[],[],13,[]⟩) al trivial mixed Tryz.func198 rfl rfl (enters_of Tryz.func198 (by kernel_rfl) rfl) rfl (Nat.le_of_ble_eq_true rfl) rfl .no (fun d=>by kernel_rfl)
theorem qJ:FOk Tryz.prog 164 l7:=fok (V:=⟨tt,[(198,rD)],[],20,[]⟩) al ⟨Av,trivial⟩ mixed Tryz.func164 rfl rfl (enters_of Tryz.func164 (by kernel_rfl) rfl) rfl (Nat.le_of_ble_eq_true rfl) rfl .no (fun d=>by kernel_rfl)
theorem rJ:FOk Tryz.prog 123 om:=fok (V:=⟨tt,[(102,fj),(164,l7)],[],37,[]⟩) al ⟨fX,qJ,trivial⟩ mixed Tryz.func123 rfl rfl (enters_of Tryz.func123 (by kernel_rfl) rfl) rfl (Nat.le_of_ble_eq_true rfl) rfl (.two .no (.two (.two .no (.loop [.slot 7 (.num .i64)] .no)) .no)) (fun d=>by kernel_rfl)
theorem vv:FOk Tryz.prog 124 qi:=fok (V:=⟨tt,[],[],6,[]⟩) al trivial mixed Tryz.func124 rfl rfl (enters_of Tryz.func124 (by kernel_rfl) rfl) rfl (Nat.le_of_ble_eq_true rfl) rfl .no (fun d=>by kernel_rfl)
theorem eK:FOk Tryz.prog 221 cE:=fok (V:=⟨tt,[],[],19,[]⟩) al trivial mixed Tryz.func221 rfl rfl (enters_of Tryz.func221 (by kernel_rfl) rfl) rfl (Nat.le_of_ble_eq_true rfl) rfl (.two .no (.two (.two .no (.loop [.slot 8 (.num .i64)] .no)) .no)) (fun d=>by kernel_rfl)
theorem kh:FOk Tryz.prog 191 eB:=fok (V:=⟨tt,[(221,cE)],[(38,.raw),(41,.raw)],42,[]⟩) al ⟨eK,trivial⟩ mixed Tryz.func191 rfl rfl (enters_of Tryz.func191 (by kernel_rfl) rfl) rfl (Nat.le_of_ble_eq_true rfl) rfl (.two .no (.two .no (.two .no (.two (.two .no (.loop [.slot 5 (.num .i64),.slot 6 (.num .i64),.row 0 103 qd] (.two .no (.two (.at [.slot 5 (.num .i64),.row 0 103 qd] .no) .no)))) .no)))) (fun d=>by kernel_rfl)
theorem km (a b:Int) (W:World):Calls Tryz.prog 198 #[.int .i64 a,.int .i64 b] W fun e w'=>e= .returned (.int .i64 (cmpI a b))∧w'=W:=by
 unfold cmpI
 by_cases h:a<b
 ·go_enter Tryz.func198,Tryz.ntmps198
  go_wp2
  go_ret
  simp[h]
 ·by_cases k:b<a
  ·go_enter Tryz.func198,Tryz.ntmps198
   go_wp2
   go_ret
   simp[h,k]
  ·go_enter Tryz.func198,Tryz.ntmps198
   go_wp2
   go_ret
   simp[h,k]
theorem ko (x y:Int×Int) (W:World):Calls Tryz.prog 164 #[.agg #[.int .i64 x.1,.int .i64 x.2],.agg #[.int .i64 y.1,.int .i64 y.2]] W fun e w'=>e= .returned (.int .i64 (KE x y))∧ ∃q os',w'=Go.Sort.grow (W.drewN q) os':=by
 unfold KE
 have hcon:=km
 generalize cmpI=cf at hcon⊢
 by_cases h:x.1=y.1
 ·rw[if_pos h]
  go_enter Tryz.func164,Tryz.ntmps164
  go_wp2_with (go_at_call 198;refine (hcon _ _ _).mono ?_;rintro e w' ⟨rfl,rfl⟩)
  go_ret
  exact ⟨rfl,0,_,by rw[Go.Sort.alloc_eq_grow,Go.Sort.alloc_eq_grow,Go.Sort.grow_grow];rfl⟩
 ·rw[if_neg h]
  go_enter Tryz.func164,Tryz.ntmps164
  go_wp2_with (go_at_call 198;refine (hcon _ _ _).mono ?_;rintro e w' ⟨rfl,rfl⟩)
  go_ret
  exact ⟨rfl,0,_,by rw[Go.Sort.alloc_eq_grow,Go.Sort.alloc_eq_grow,Go.Sort.grow_grow];rfl⟩
theorem kN:FOk Tryz.prog 222 fl:=Nw A8 (by intro w;kernel_rfl) (by intro w;kernel_rfl) QI QJ (enters_of Tryz.func164 (by kernel_rfl) rfl) (fun _ _ _ _ _ _ _ _ x y=>ko x y _) (enters_of Tryz.func222 (by kernel_rfl) rfl) 103
theorem lT:FOk Tryz.prog 223 fu:=fok (V:=⟨tt,[],[(28,.raw),(56,.raw),(59,.raw)],61,[]⟩) al trivial mixed Tryz.func223 rfl rfl (enters_of Tryz.func223 (by kernel_rfl) rfl) rfl (Nat.le_of_ble_eq_true rfl) rfl (.two .no (.two .no (.two (.two .no (.loop [.slot 3 (.num .i64)] (.two .no (.two (.two .no (.two (.two .no (.two (.two .no (.loop [.slot 3 (.num .i64),.slot 5 (.num .i64),.row 0 103 qd] (.two .no (.two (.at [.slot 3 (.num .i64),.row 0 103 qd] .no) .no)))) .no)) .no)) .no)))) .no))) (fun d=>by kernel_rfl)
theorem Aw:FOk Tryz.prog 192 tW:=fok (V:=⟨tt,[(164,l7),(222,fl),(223,fu)],[],11,[]⟩) al ⟨qJ,kN,lT,trivial⟩ mixed Tryz.func192 rfl rfl (enters_of Tryz.func192 (by kernel_rfl) rfl) rfl (Nat.le_of_ble_eq_true rfl) rfl .no (fun d=>by kernel_rfl)
theorem mK:FOk Tryz.prog 224 gi:=fok (V:=⟨tt,[],[],19,[]⟩) al trivial mixed Tryz.func224 rfl rfl (enters_of Tryz.func224 (by kernel_rfl) rfl) rfl (Nat.le_of_ble_eq_true rfl) rfl (.two .no (.two (.two .no (.loop [.slot 8 (.num .i64)] .no)) .no)) (fun d=>by kernel_rfl)
end R
namespace R
open Go.RowKit
open D
theorem fm:FOk Tryz.prog 194 cP:=fok (V:=⟨tt,[(224,gi)],[],9,[]⟩) al ⟨mK,trivial⟩ mixed Tryz.func194 rfl rfl (enters_of Tryz.func194 (by kernel_rfl) rfl) rfl (Nat.le_of_ble_eq_true rfl) rfl .no (fun d=>by kernel_rfl)
theorem uh:FOk Tryz.prog 193 nC:=fok (V:=⟨tt,[(194,cP)],[],7,[]⟩) al ⟨fm,trivial⟩ mixed Tryz.func193 rfl rfl (enters_of Tryz.func193 (by kernel_rfl) rfl) rfl (Nat.le_of_ble_eq_true rfl) rfl .no (fun d=>by kernel_rfl)
theorem wN:FOk Tryz.prog 153 pe:=fok (V:=⟨tt,[(191,eB),(192,tW),(193,nC)],[],9,[]⟩) al ⟨kh,Aw,uh,trivial⟩ mixed Tryz.func153 rfl rfl (enters_of Tryz.func153 (by kernel_rfl) rfl) rfl (Nat.le_of_ble_eq_true rfl) rfl .no (fun d=>by kernel_rfl)
theorem ji:FOk Tryz.prog 196 dK:=fok (V:=⟨tt,[(221,cE)],[],9,[]⟩) al ⟨eK,trivial⟩ mixed Tryz.func196 rfl rfl (enters_of Tryz.func196 (by kernel_rfl) rfl) rfl (Nat.le_of_ble_eq_true rfl) rfl .no (fun d=>by kernel_rfl)
theorem xU:FOk Tryz.prog 197 qF:=fok (V:=⟨tt,[(194,cP)],[],7,[]⟩) al ⟨fm,trivial⟩ mixed Tryz.func197 rfl rfl (enters_of Tryz.func197 (by kernel_rfl) rfl) rfl (Nat.le_of_ble_eq_true rfl) rfl .no (fun d=>by kernel_rfl)
theorem tq:FOk Tryz.prog 162 oG:=fok (V:=⟨tt,[(196,dK),(197,qF)],[],8,[]⟩) al ⟨ji,xU,trivial⟩ mixed Tryz.func162 rfl rfl (enters_of Tryz.func162 (by kernel_rfl) rfl) rfl (Nat.le_of_ble_eq_true rfl) rfl .no (fun d=>by kernel_rfl)
theorem HW:FOk Tryz.prog 161 zZ:=fok (V:=⟨tt,[(123,om),(162,oG)],[],19,[]⟩) al ⟨rJ,tq,trivial⟩ mixed Tryz.func161 rfl rfl (enters_of Tryz.func161 (by kernel_rfl) rfl) rfl (Nat.le_of_ble_eq_true rfl) rfl .no (fun d=>by kernel_rfl)
theorem Bs:FOk Tryz.prog 163 tj:=fok (V:=⟨tt,[(192,tW)],[],11,[]⟩) al ⟨Aw,trivial⟩ mixed Tryz.func163 rfl rfl (enters_of Tryz.func163 (by kernel_rfl) rfl) rfl (Nat.le_of_ble_eq_true rfl) rfl .no (fun d=>by kernel_rfl)
theorem Bt:FOk Tryz.prog 122 tk:=fok (V:=⟨tt,[(123,om),(124,qi),(153,pe),(161,zZ),(162,oG),(163,tj)],[],37,[]⟩) al ⟨rJ,vv,wN,HW,tq,Bs,trivial⟩ mixed Tryz.func122 rfl rfl (enters_of Tryz.func122 (by kernel_rfl) rfl) rfl (Nat.le_of_ble_eq_true rfl) rfl .no (fun d=>by kernel_rfl)
theorem xV:FOk Tryz.prog 85 qG:=fok (V:=⟨tt,[(122,tk),(123,om),(124,qi)],[],33,[]⟩) al ⟨Bt,rJ,vv,trivial⟩ mixed Tryz.func85 rfl rfl (enters_of Tryz.func85 (by kernel_rfl) rfl) rfl (Nat.le_of_ble_eq_true rfl) rfl .no (fun d=>by kernel_rfl)
theorem mL:FOk Tryz.prog 125 gj:=fok (V:=⟨tt,[],[],26,[]⟩) al trivial mixed Tryz.func125 rfl rfl (enters_of Tryz.func125 (by kernel_rfl) rfl) rfl (Nat.le_of_ble_eq_true rfl) rfl (.two .no (.two .no (.two (.two .no (.loop [.slot 13 (.num .i64)] .no)) .no))) (fun d=>by kernel_rfl)
theorem Bu:FOk Tryz.prog 86 tl:=fok (V:=⟨tt,[(125,gj)],[],8,[]⟩) al ⟨mL,trivial⟩ mixed Tryz.func86 rfl rfl (enters_of Tryz.func86 (by kernel_rfl) rfl) rfl (Nat.le_of_ble_eq_true rfl) rfl .no (fun d=>by kernel_rfl)
theorem wO:FOk Tryz.prog 37 pf:=fok (V:=⟨tt,[(84,vm),(85,qG),(86,tl)],[],74,[]⟩) al ⟨Dx,xV,Bu,trivial⟩ mixed Tryz.func37 rfl rfl (enters_of Tryz.func37 (by kernel_rfl) rfl) rfl (Nat.le_of_ble_eq_true rfl) rfl (.two .no (.two .no (.two .no (.two .no (.two (.two .no (.loop [.slot 11 (.own 103 qd),.slot 13 (.num .i64),.slot 33 (.num .i64)] .no)) .no))))) (fun d=>by kernel_rfl)
theorem KV:FOk Tryz.prog 57 Cn:=fok (V:=⟨tt,[],[],15,[]⟩) al trivial mixed Tryz.func57 rfl rfl (enters_of Tryz.func57 (by kernel_rfl) rfl) rfl (Nat.le_of_ble_eq_true rfl) rfl .no (fun d=>by kernel_rfl)
theorem HY:FOk Tryz.prog 14 Aa:=fok (V:=⟨tt,[(57,Cn)],[],27,[]⟩) al ⟨KV,trivial⟩ mixed Tryz.func14 rfl rfl (enters_of Tryz.func14 (by kernel_rfl) rfl) rfl (Nat.le_of_ble_eq_true rfl) rfl (.two .no (.two .no (.two (.two .no (.loop [.slot 5 (.num .i64)] .no)) .no))) (fun d=>by kernel_rfl)
theorem HZ:FOk Tryz.prog 72 Ab:=fok (V:=⟨tt,[(14,Aa)],[],17,[]⟩) al ⟨HY,trivial⟩ mixed Tryz.func72 rfl rfl (enters_of Tryz.func72 (by kernel_rfl) rfl) rfl (Nat.le_of_ble_eq_true rfl) rfl .no (fun d=>by kernel_rfl)
theorem Dy:FOk Tryz.prog 26 vn:=fok (V:=⟨tt,[(72,Ab)],[],21,[]⟩) al ⟨HZ,trivial⟩ mixed Tryz.func26 rfl rfl (enters_of Tryz.func26 (by kernel_rfl) rfl) rfl (Nat.le_of_ble_eq_true rfl) rfl .no (fun d=>by kernel_rfl)
end R
namespace R
open Go.RowKit
open D
theorem Bv:FOk Tryz.prog 38 tm:=fok (V:=⟨tt,[(26,vn)],[],27,[]⟩) al ⟨Dy,trivial⟩ mixed Tryz.func38 rfl rfl (enters_of Tryz.func38 (by kernel_rfl) rfl) rfl (Nat.le_of_ble_eq_true rfl) rfl (.two .no (.two .no (.two (.two .no (.loop [.slot 5 (.num .i64)] .no)) .no))) (fun d=>by kernel_rfl)
theorem pv:FOk Tryz.prog 6 pg:=fok (V:=⟨tt,[(8,sM),(11,sN),(15,sO),(21,uU),(23,uV),(28,uW),(34,sP),(35,o8),(36,te),(37,pf),(38,tm)],[],71,[]⟩) al ⟨A9,Ba,Bb,Di,Dj,Dk,Bc,wG,Bo,wO,Bv,trivial⟩ mixed Tryz.func6 rfl rfl (enters_of Tryz.func6 (by kernel_rfl) rfl) rfl (Nat.le_of_ble_eq_true rfl) rfl .no (fun d=>by kernel_rfl)
end R
namespace D
open Go.RowKit
theorem pw (x0:Int×(List ((List Int)×(List (Int×Int×Int×Int))))) (x1:(List (Int×(List Bool)×(List (List Int))))×(List (Int×((List (Int×Int×Int×Int)))×Int))) (x2:Int) (x3:Int) (x4:List (Int×Bool×((List (Int×Int))×(List (Int×Int))))) (r:Bool) (hm:de x0 x1 x2 x3 x4=some r) {I:Hp} {w0:World} (v0_0:Value) (v1_0:Value) (v1_1:Value) (v4_0:Value) (r0_0:(ae 29 (aA (ae 3 aS) (ae 156 (aA aS (aA aS (aA aS aS)))))).rd I [v0_0] x0.2) (r1_0:(ae 133 (aA aS (aA (ae 4 mQ) (ae 26 (ae 3 aS))))).rd I [v1_0] x1.1) (r1_1:(ae 139 (aA aS (aA (ae 232 (aA aS (aA aS (aA aS aS)))) aS))).rd I [v1_1] x1.2) (r4_0:(ae 126 (aA aS (aA mQ (aA (ae 220 (aA aS aS)) (ae 220 (aA aS aS)))))).rd I [v4_0] x4):Con Tryz.prog 6 #[.agg #[.int .i64 x0.1,v0_0],.agg #[v1_0,v1_1],.int .i64 x2,.int .i64 x3,v4_0] I w0 [] (fun v=>v= .bool r) (fun _=>[]):=fun w C hs =>
 ((R.pv).con w0 I [.agg #[.int .i64 x0.1,v0_0],.agg #[v1_0,v1_1],.int .i64 x2,.int .i64 x3,v4_0] (x0,(x1,(x2,(x3,(x4,()))))) r ⟨_,_,rfl,⟨[.int .i64 x0.1,v0_0],rfl,⟨_,_,rfl,rfl,r0_0⟩⟩,⟨_,_,rfl,⟨[v1_0,v1_1],rfl,⟨_,_,rfl,r1_0,r1_1⟩⟩,⟨_,_,rfl,⟨[.int .i64 x2],rfl,rfl⟩,⟨_,_,rfl,⟨[.int .i64 x3],rfl,rfl⟩,⟨_,_,rfl,⟨[v4_0],rfl,r4_0⟩,rfl⟩⟩⟩⟩⟩ hm w C hs).mono fun e w' ⟨v,he,_,hst⟩=>by
  obtain ⟨h1,h2⟩:=R.uE (h1:=fun _=>rfl) (show St I w0 w' (Ch.own R.Ty.bool.rep [v] r::C) from hst)
  exact ⟨v,he,(List.cons.inj h1).1,h2⟩
end D
namespace D
open Go.RowKit
def I64 (n:Int):Prop:= -9223372036854775808≤n∧n≤9223372036854775807
class Data (α:Type) where
 lim:α→Prop
 sm:α→Prop
instance:Data Int:=⟨I64,fun _=>True⟩
instance:Data Bool:=⟨fun _=>True,fun _=>True⟩
instance:Data ByteArray:=⟨fun s=>s.size≤9223372036854775807,fun s=>s.size≤1048576⟩
instance {α β:Type} [Data α] [Data β] :Data (α×β):=⟨fun x=>Data.lim x.1∧Data.lim x.2,fun x=>Data.sm x.1∧Data.sm x.2⟩
instance {α:Type} [Data α] :Data (List α):=⟨fun xs=>xs.length≤9223372036854775807∧ ∀x,x∈xs→Data.lim x,fun xs=>xs.length≤1048576∧ ∀x,x∈xs→Data.sm x⟩
structure Opens (P:Program) (t:TypeId) {α:Type} [Data α] (R:Rep α):Prop where
 out: ∀ {H:Type} (enc:TypeId×Value→H) (w:World) (fuel:Nat) (cs:List Value) (x:DataW H×List MemPlace),DataW.trod enc P w 0 (fun _=>true) true fuel t cs=some x→ ∃a:α,R.rd (hp w) cs a∧Data.lim a
theorem NH {P:Program} {t:TypeId} (h:P.underlying t=some (.int .i64)):Opens P t aS:=by
 constructor
 intro H enc w fuel cs x hx
 obtain ⟨n,rfl,-,hw⟩:=DataW.trod_int h hx
 refine ⟨n,rfl,show I64 n from ?_⟩
 simp[Lit.wf,IntKind.min,IntKind.max,IntKind.signed,IntKind.bits] at hw
 unfold I64
 omega
theorem KW {P:Program} {t:TypeId} (h:P.underlying t=some .bool):Opens P t mQ:=by
 constructor
 intro H enc w fuel cs x hx
 obtain ⟨n,rfl,-⟩:=DataW.trod_bool h hx
 exact ⟨n,rfl,trivial⟩
theorem eI {P:Program} {t e:TypeId} {α:Type} [Data α] {R:Rep α} {E:TypeId} (h:P.underlying t=some (.slice e)) (hc:P.cellsOf e=R.size) (h0:0<R.size) (he:Opens P e R):Opens P t (ae E R):=by
 constructor
 intro H enc w fuel cs x hx
 rcases Go.Deep.open_slice h hx with ⟨rfl,-⟩ | ⟨a,len,cap,m,n,D,Pl,rfl,-,hl,hm,hmm,-,hel⟩
 ·exact ⟨[],⟨none,0,rfl,by simp,.inl rfl⟩,Nat.zero_le _,fun x hx=>by cases hx⟩
 have hlm:m=cap:=by simpa using hmm
 subst hlm
 rw[hc] at hel
 by_cases hz:len=0
 ·subst hz
  exact ⟨[],⟨some a,m,rfl,by simp,.inl rfl⟩,Nat.zero_le _,fun x hx=>by cases hx⟩
 ·have hone: ∀i,i<len→ ∃c:List Value,∃y:α,c.length=R.size∧(∀j,j<R.size→w.cell? ((a.add (i*R.size)).add j)=c[j]?)∧R.rd (hp w) c y∧Data.lim y:=by
   intro i hi
   obtain ⟨c,h1,h2⟩:=hel i (by omega)
   obtain ⟨-,h3,h4⟩:=World.cells?_some h1
   obtain ⟨y,hy⟩:=he.out enc w _ _ _ h2
   exact ⟨c,y,h3,h4,hy⟩
  obtain ⟨c0,y0,hc0,hr0,-⟩:=hone 0 (by omega)
  have h00:=hr0 0 h0
  have hsome: ∃v,c0[0]? =some v:=⟨_,List.getElem?_eq_getElem (by omega)⟩
  obtain ⟨v,hv⟩:=hsome
  rw[hv] at h00
  have ha:(a.add (0*R.size)).add 0=a:=by simp[Addr.add]
  rw[ha] at h00
  obtain ⟨b,off,spot⟩:=a
  have hb: ∃ccs T fr,w.heap[b]? =some (.cells ccs T fr)∧spot=none:=by
   simp only[World.cell?] at h00
   split at h00
   ·rename_i ccs T fr heq
    cases spot with
    | none=>exact ⟨ccs,T,fr,heq,rfl⟩
    | some s=>simp at h00
   ·simp at h00
  obtain ⟨ccs,T,fr,hh,rfl⟩:=hb
  have hadd: ∀i j,(Addr.add ⟨b,off,none⟩ i).add j=⟨b,off+i+j,none⟩:=by
   intro i j
   by_cases h1:i=0 <;> by_cases h2:j=0 <;> simp[Addr.add,h1,h2,Nat.add_assoc]
  haveI:Inhabited α:=⟨y0⟩
  obtain ⟨X,hX⟩:=Go.Deep.choose_lt (α:=α) (n:=len) (p:=fun i y=> ∃c:List Value,c.length=R.size∧(∀j,j<R.size→ccs.toList[off+i*R.size+j]? =c[j]?)∧R.rd (hp w) c y∧Data.lim y) (fun i hi=>by
   obtain ⟨c,y,h1,h2,h3⟩:=hone i hi
   refine ⟨y,c,h1,fun j hj=>?_,h3⟩
   have:=h2 j hj
   rw[hadd] at this
   simp only[World.cell?,hh] at this
   simpa using this)
  have hlen:((List.range len).map X).length=len:=by simp
  have hel2: ∀i y,((List.range len).map X)[i]? =some y→i<len∧y=X i:=fun i y hy=>by
   have hi:i<len:=by have:=(List.getElem?_eq_some_iff.1 hy).1;omega
   exact ⟨hi,by simpa [hi] using hy.symm⟩
  refine ⟨(List.range len).map X,⟨some ⟨b,off,none⟩,m,by rw[hlen],by rw[hlen];unfold maxLen at hm;unfold lim;omega,.inr ⟨b,off,ccs,T,fr,rfl,hh,fun i y hy=>?_⟩⟩,by rw[hlen];unfold maxLen at hm;omega,fun y hy=>?_⟩
  ·obtain ⟨hi,rfl⟩:=hel2 i y hy
   obtain ⟨c,e1,e2,e3,-⟩:=hX i hi
   exact ⟨c,e1,e2,e3⟩
  ·obtain ⟨i,hi,he⟩:=List.mem_iff_getElem?.1 hy |>.imp fun i hi=>hel2 i y hi
   obtain ⟨-,-,-,-,e4⟩:=hX i hi
   rw[he];exact e4
structure OpensFs (P:Program) (fs:List Field) (o:Nat) {α:Type} [Data α] (R:Rep α):Prop where
 out: ∀ {H:Type} (enc:TypeId×Value→H) (w:World) (fuel:Nat) (cs:List Value),cs.length=o+R.size→
  (∀f∈fs,∃x,DataW.trod enc P w 0 (fun _=>true) true fuel f.type ((cs.drop f.offset).take (P.cellsOf f.type))=some x)→ ∃a:α,R.rd (hp w) (cs.drop o) a∧Data.lim a
theorem fo {P:Program} {f:Field} {o:Nat} {α:Type} [Data α] {R:Rep α} (ho:f.offset=o) (hc:P.cellsOf f.type=R.size) (h:Opens P f.type R):OpensFs P [f] o R:=by
 constructor
 intro H enc w fuel cs hl hx
 obtain ⟨x,hx⟩:=hx f (by simp)
 rw[ho,hc,List.take_of_length_le (by rw[List.length_drop];omega)] at hx
 exact h.out enc w _ _ _ hx
theorem b9 {P:Program} {f:Field} {fs:List Field} {o:Nat} {α β:Type} [Data α] [Data β] {R:Rep α} {S:Rep β} (ho:f.offset=o) (hc:P.cellsOf f.type=R.size) (h:Opens P f.type R) (hs:OpensFs P fs (o+R.size) S):OpensFs P (f::fs) o (aA R S):=by
 constructor
 intro H enc w fuel cs hl hx
 have hl':cs.length=o+(R.size+S.size):=hl
 obtain ⟨b,hb,hlb⟩:=hs.out enc w fuel cs (by omega) (fun g hg=>hx g (by simp[hg]))
 obtain ⟨x,hx⟩:=hx f (by simp)
 rw[ho,hc] at hx
 obtain ⟨a,ha,hla⟩:=h.out enc w _ _ _ hx
 refine ⟨(a,b),⟨(cs.drop o).take R.size,cs.drop (o+R.size),?_,ha,hb⟩,hla,hlb⟩
 rw[←List.drop_drop,List.take_append_drop]
theorem da {P:Program} {t:TypeId} {fs:Array Field} {α:Type} [Data α] {R:Rep α} (h:P.underlying t=some (.struct fs)) (hc:P.cellsOf t=R.size) (hf:OpensFs P fs.toList 0 R):Opens P t R:=by
 constructor
 intro H enc w fuel cs x hx
 obtain ⟨xs,n,-,-,hl,hn,hel⟩:=DataW.trod_struct h hx
 have:=hf.out enc w n cs (by omega) (fun f hm=>by
  obtain ⟨i,hi,rfl⟩:=List.getElem_of_mem hm
  have h1:fs[i]? =some fs.toList[i]:=by simp
  exact ⟨_,(hel i _ h1).trans (List.getElem?_eq_getElem (by simp at hi;omega))⟩)
 simpa using this
theorem St.below {w0 w:World} {cs:List Ch} (h:St (hp w0) w0 w cs):Below w0.heap.size w0 w:=by
 obtain ⟨⟨h1,h2,h3,h4⟩,h5,-⟩:=h
 refine ⟨h1,h2,h3,h4,fun b hb=>?_⟩
 have e:w0.heap[b]? =some w0.heap[b]:=Array.getElem?_eq_getElem hb
 rw[e];exact h5 b _ e
end D
namespace D
open Go.RowKit
theorem cB {n:Int} (h1: -9223372036854775808≤n) (h2:n≤9223372036854775807):IntKind.i64.wrap n=n:=by
 simp only[IntKind.wrap,IntKind.bits,IntKind.signed,Bool.true_and]
 split <;> rename_i h <;> simp at h <;> omega
theorem aa {i:Nat} (h:i<9223372036854775807):IntKind.i64.wrap ((i:Int)+1)=((i+1:Nat):Int):=by
 rw[cB (by omega) (by omega)];rfl
theorem ah {α:Type} {xs:List α} {i:Nat} (h:i<xs.length):az xs (i:Int)=some (xs[i]):=by
 unfold az
 rw[if_pos (Int.natCast_nonneg _)]
 simp[h]
theorem a6 {i n:Nat} (h:i<n):decide ((i:Int)<(n:Int))=true:=by simp[h]
theorem aO {n:Nat} :decide ((n:Int)<(n:Int))=false:=by simp
theorem iy (k:Nat) (h:k≤9223372036854775807):k<aC:=by unfold aC;omega
theorem rK {α:Type} {b n:Nat} {z:α} (h:n*b≤140737488355328):mkI b (n:Int) z=some (List.replicate n z):=by
 unfold mkI
 rw[if_pos ⟨Int.natCast_nonneg _,by simpa using h⟩];simp
theorem FL {R S:Type} {f:S→Option (Out R S)} (inv:Nat→S) (N:Nat) (h: ∀i,i<N→f (inv i)=some (.nxt (inv (i+1)))): ∀(m i k:Nat),i+m=N→ai f (k+m) (inv i)=ai f k (inv N)
 | 0,i,k,e=>by rw[show i=N by omega];rfl
 | m+1,i,k,e=>by
  rw[←Nat.add_assoc,ai,h i (by omega)]
  exact FL inv N h m (i+1) k (by omega)
theorem FM {R S:Type} {f:S→Option (Out R S)} (inv:Nat→S) (N:Nat) {s:S} (h: ∀i,i<N→f (inv i)=some (.nxt (inv (i+1)))) (he:f (inv N)=some (.brk s)) (hN:N<aC):ai f aC (inv 0)=some (.brk s):=by
 have e:aC=(aC - N - 1)+1+N:=by omega
 rw[e,FL inv N h N 0 _ (by omega),ai,he]
theorem toL {R α:Type} {f:List α×Int→Option (Out R (List α×Int))} {z:α} (xs:List α) (hN:xs.length≤9223372036854775807)
  (hstep: ∀ys i (h:i<xs.length),ys.length=xs.length→f (ys,(i:Int))=some (.nxt (ys.set i xs[i],((i+1:Nat):Int)))) (hend: ∀ys,ys.length=xs.length→f (ys,(xs.length:Int))=some (.brk (ys,(xs.length:Int)))) :
  ai f aC (List.replicate xs.length z,0)=some (.brk (xs,(xs.length:Int))):=by
 have h0:(List.replicate xs.length z,(0:Int))=(fun i:Nat=>(xs.take i++(List.replicate xs.length z).drop i,(i:Int))) 0:=by simp
 rw[h0]
 refine FM (fun i:Nat=>(xs.take i++(List.replicate xs.length z).drop i,(i:Int))) xs.length (fun i hi=>?_) ?_ (iy _ hN)
 ·have hl:(xs.take i++(List.replicate xs.length z).drop i).length=xs.length:=by
   rw[List.length_append,List.length_take,List.length_drop,List.length_replicate];omega
  rw[hstep _ i hi hl]
  congr 3
  have ht:(xs.take i).length=i:=by rw[List.length_take];omega
  rw[List.set_append_right _ _ (by omega),ht,Nat.sub_self,List.drop_eq_getElem_cons (by rw[List.length_replicate];exact hi),List.set_cons_zero,List.take_succ_eq_append_getElem hi,List.append_assoc]
  rfl
 ·have:=hend xs rfl
  rw[List.take_of_length_le (Nat.le_refl _),List.drop_of_length_le (by rw[List.length_replicate];exact Nat.le_refl _),List.append_nil]
  exact this
def D9 {α:Type} [Data α] (m:α→Int→Option Int):Prop:= ∀x l,Data.lim x→0≤l→l≤1048576→ ∃r,m x l=some r∧(r<0∨(0≤r∧r≤l∧Data.sm x))
def Bw {α:Type} [Data α] (m:α→Option α):Prop:= ∀x,Data.sm x→m x=some x
def Bx {α:Type} [Data α] [DecidableEq α] (m:α→α→Option Bool):Prop:= ∀x y,Data.sm x→Data.sm y→m x y=some (decide (x=y))
theorem YJ {α:Type} [Data α] {f:Int×Int→Option (Out Int (Int×Int))} (xs:List α)
  (hstep: ∀i (h:i<xs.length) l,0≤l→l≤1048576→ ∃r,f (l,(i:Int))=some (if r<0 then .ret (-1) else .nxt (r,((i+1:Nat):Int)))∧(r<0∨(0≤r∧r≤l∧Data.sm xs[i])))
  (hend: ∀l,f (l,(xs.length:Int))=some (.brk (l,(xs.length:Int)))): ∀(m i k:Nat) (l:Int),i+m=xs.length→m<k→0≤l→l≤1048576→
   ai f k (l,(i:Int))=some (.ret (-1))∨ ∃r,ai f k (l,(i:Int))=some (.brk (r,(xs.length:Int)))∧0≤r∧r≤l∧ ∀j (h:j<xs.length),i≤j→Data.sm xs[j]
 | 0,i,k,l,e,hk,h0,h1=>by
  obtain ⟨k,rfl⟩: ∃q,k=q+1:=⟨k - 1,by omega⟩
  obtain rfl:i=xs.length:=by omega
  exact .inr ⟨l,by rw[ai,hend],h0,Int.le_refl _,fun j hj hi=>by omega⟩
 | m+1,i,k,l,e,hk,h0,h1=>by
  obtain ⟨k,rfl⟩: ∃q,k=q+1:=⟨k - 1,by omega⟩
  obtain ⟨r,e1,e2⟩:=hstep i (by omega) l h0 h1
  rw[ai,e1]
  rcases e2 with e2 | ⟨e2,e3,e4⟩
  ·rw[if_pos e2];exact .inl rfl
  ·rw[if_neg (by omega)]
   rcases YJ xs hstep hend m (i+1) k r (by omega) (by omega) e2 (by omega) with h | ⟨q,g1,g2,g3,g4⟩
   ·exact .inl h
   ·refine .inr ⟨q,g1,g2,by omega,fun j hj hi=>?_⟩
    by_cases hji:j=i
    ·subst hji;exact e4
    ·exact g4 j hj (by omega)
theorem szL {α:Type} [Data α] {f:Int×Int→Option (Out Int (Int×Int))} (xs:List α) {l:Int} (hN:xs.length≤9223372036854775807)
  (hstep: ∀i (h:i<xs.length) l,0≤l→l≤1048576→ ∃r,f (l,(i:Int))=some (if r<0 then .ret (-1) else .nxt (r,((i+1:Nat):Int)))∧(r<0∨(0≤r∧r≤l∧Data.sm xs[i])))
  (hend: ∀l,f (l,(xs.length:Int))=some (.brk (l,(xs.length:Int)))) (h0:0≤l) (h1:l≤1048576) :
  ∃r,(if decide (IntKind.i64.wrap (l - (xs.length:Int))<0) then (some (-1)) else (ax (ai f aC (IntKind.i64.wrap (l - (xs.length:Int)),0)) (fun r=>some r) (fun s4=>some s4.1)))=some r∧(r<0∨(0≤r∧r≤l∧Data.sm xs)):=by
 rw[cB (by omega) (by omega)]
 by_cases h:l - (xs.length:Int)<0
 ·exact ⟨-1,by rw[if_pos (decide_eq_true h)],.inl (by decide)⟩
 ·rw[if_neg (by simpa using h)]
  rcases YJ xs hstep hend xs.length 0 aC (l - xs.length) (by omega) (iy _ hN) (by omega) (by omega) with e | ⟨r,e,g1,g2,g3⟩
  ·exact ⟨-1,by rw[show ((0:Int))=((0:Nat):Int) from rfl,e];rfl,.inl (by decide)⟩
  ·refine ⟨r,by rw[show ((0:Int))=((0:Nat):Int) from rfl,e];rfl,.inr ⟨g1,by omega,by omega,fun x hx=>?_⟩⟩
   obtain ⟨j,hj,rfl⟩:=List.getElem_of_mem hx
   exact g3 j hj (Nat.zero_le _)
theorem szF {α:Type} [Data α] (xs:List α) {l:Int} (hN:xs.length≤9223372036854775807) (hf: ∀x:α,Data.sm x) (h0:0≤l) (h1:l≤1048576) :
  ∃r,(if decide (IntKind.i64.wrap (l - (xs.length:Int))<0) then (some (-1)) else (some (IntKind.i64.wrap (l - (xs.length:Int)))))=some r∧(r<0∨(0≤r∧r≤l∧Data.sm xs)):=by
 rw[cB (by omega) (by omega)]
 by_cases h:l - (xs.length:Int)<0
 ·exact ⟨-1,by rw[if_pos (decide_eq_true h)],.inl (by decide)⟩
 ·exact ⟨_,by rw[if_neg (by simpa using h)],.inr ⟨by omega,by omega,by omega,fun x _=>hf x⟩⟩
theorem XN {α:Type} [DecidableEq α] {f:Int→Option (Out Bool Int)} (xs ys:List α) (hl:xs.length=ys.length)
  (hstep: ∀i (h:i<xs.length) (h':i<ys.length),f (i:Int)=some (if xs[i] =ys[i] then .nxt ((i+1:Nat):Int) else .ret false)) (hend:f (xs.length:Int)=some (.brk (xs.length:Int))): ∀(m i k:Nat),i+m=xs.length→m<k→
   ai f k (i:Int)=some (if xs.drop i=ys.drop i then .brk (xs.length:Int) else .ret false)
 | 0,i,k,e,hk=>by
  obtain ⟨k,rfl⟩: ∃q,k=q+1:=⟨k - 1,by omega⟩
  obtain rfl:i=xs.length:=by omega
  rw[ai,hend,List.drop_of_length_le (Nat.le_refl _),List.drop_of_length_le (by omega),if_pos rfl]
 | m+1,i,k,e,hk=>by
  obtain ⟨k,rfl⟩: ∃q,k=q+1:=⟨k - 1,by omega⟩
  have hi:i<xs.length:=by omega
  have hi':i<ys.length:=by omega
  have d1:=List.drop_eq_getElem_cons hi
  have d2:=List.drop_eq_getElem_cons hi'
  rw[ai,hstep i hi hi',d1,d2]
  by_cases h:xs[i] =ys[i]
  ·rw[if_pos h]
   simp only
   rw[XN xs ys hl hstep hend m (i+1) k (by omega) (by omega)]
   simp only[List.cons.injEq,h,true_and]
  ·rw[if_neg h]
   simp only[List.cons.injEq,h,false_and,if_false]
theorem eqL {α:Type} [DecidableEq α] {f:Int→Option (Out Bool Int)} (xs ys:List α) (hN:xs.length≤9223372036854775807)
  (hstep: ∀i (h:i<xs.length) (h':i<ys.length),f (i:Int)=some (if xs[i] =ys[i] then .nxt ((i+1:Nat):Int) else .ret false)) (hend:f (xs.length:Int)=some (.brk (xs.length:Int))) :
  (if (xs.length:Int) !=(ys.length:Int) then (some false) else (ax (ai f aC 0) (fun r=>some r) (fun s4=>some true)))=some (decide (xs=ys)):=by
 by_cases hl:xs.length=ys.length
 ·rw[if_neg (by rw[hl];simp),show ((0:Int))=((0:Nat):Int) from rfl,XN xs ys hl hstep hend xs.length 0 aC (by omega) (iy _ hN)]
  by_cases h:xs=ys
  ·subst h;simp[ax]
  ·simp[ax,h]
 ·have:xs≠ys:=fun e=>hl (by rw[e])
  rw[if_pos (by simp;omega)];simp[this]
theorem dR {α:Type} {c d:Prop} [Decidable c] [Decidable d] {a b:α} (h:c↔d):(if c then some a else some b)=some (if d then a else b):=by
 by_cases k:c
 ·rw[if_pos k,if_pos (h.1 k)]
 ·rw[if_neg k,if_neg (fun e=>k (h.2 e))]
theorem oJ {α:Type} {c d:Prop} [Decidable c] [Decidable d] {a b:α} (h:c↔ ¬d):(if c then some b else some a)=some (if d then a else b):=by
 by_cases k:d
 ·rw[if_neg (fun e=>h.1 e k),if_pos k]
 ·rw[if_pos (h.2 k),if_neg k]
theorem eqB {α:Type} [DecidableEq α] {f:Int→Option (Out Bool Int)} {K:Option Bool} (xs ys:List α) (hN:xs.length≤9223372036854775807) (hl:xs.length=ys.length)
  (hstep: ∀i (h:i<xs.length) (h':i<ys.length),f (i:Int)=some (if xs[i] =ys[i] then .nxt ((i+1:Nat):Int) else .ret false)) (hend:f (xs.length:Int)=some (.brk (xs.length:Int))) :
  ax (ai f aC 0) (fun r=>some r) (fun s4=>K)=(if xs=ys then K else some false):=by
 rw[show ((0:Int))=((0:Nat):Int) from rfl,XN xs ys hl hstep hend xs.length 0 aC (by omega) (iy _ hN)]
 by_cases h:xs=ys
 ·subst h;simp[ax]
 ·simp[ax,h]
theorem Wf {f:Int→Option (Out Int Int)} (xs ys:List Int)
  (hstep: ∀i (h:i<xs.length) (h':i<ys.length),f (i:Int)=some (if xs[i] < ys[i] then .ret (-1) else if xs[i] > ys[i] then .ret 1 else .nxt ((i+1:Nat):Int))) (hend: ∀i,xs.length≤i∨ys.length≤i→f (i:Int)=some (.brk (i:Int))): ∀(m i k:Nat),i+m=xs.length→m<k→
   (∃r,ai f k (i:Int)=some (.ret r)∧r≠0∧xs≠ys)∨ ∃s,ai f k (i:Int)=some (.brk s)∧(xs.length=ys.length→xs.drop i=ys.drop i)
 | 0,i,k,e,hk=>by
  obtain ⟨k,rfl⟩: ∃q,k=q+1:=⟨k - 1,by omega⟩
  exact .inr ⟨_,by rw[ai,hend i (.inl (by omega))],fun h=>by rw[List.drop_of_length_le (by omega),List.drop_of_length_le (by omega)]⟩
 | m+1,i,k,e,hk=>by
  obtain ⟨k,rfl⟩: ∃q,k=q+1:=⟨k - 1,by omega⟩
  have hi:i<xs.length:=by omega
  by_cases hi':i<ys.length
  ·have hne: ∀h:xs[i] ≠ys[i],xs≠ys:=fun h e=>h (by subst e;rfl)
   rw[ai,hstep i hi hi']
   by_cases h1:xs[i] < ys[i]
   ·rw[if_pos h1];exact .inl ⟨-1,rfl,by decide,hne (by omega)⟩
   ·rw[if_neg h1]
    by_cases h2:xs[i] > ys[i]
    ·rw[if_pos h2];exact .inl ⟨1,rfl,by decide,hne (by omega)⟩
    ·rw[if_neg h2]
     rcases Wf xs ys hstep hend m (i+1) k (by omega) (by omega) with h | ⟨s,g1,g2⟩
     ·exact .inl h
     ·refine .inr ⟨s,g1,fun hl=>?_⟩
      have h3:xs[i] =ys[i]:=by omega
      rw[List.drop_eq_getElem_cons hi,List.drop_eq_getElem_cons hi',g2 hl,h3]
  ·exact .inr ⟨_,by rw[ai,hend i (.inr (by omega))],fun h=>by omega⟩
instance:LawfulBEq ByteArray where
 eq_of_beq {a b} h:=ByteArray.ext (eq_of_beq (show (a.data==b.data)=true from h))
 rfl {a}:=beq_self_eq_true a.data
theorem YK {α β γ δ:Type} {a b:α×β×γ×δ} :(a.1=b.1∧a.2.1=b.2.1∧a.2.2.1=b.2.2.1∧a.2.2.2=b.2.2.2)↔a=b:=by rw[Prod.ext_iff,Prod.ext_iff,Prod.ext_iff]
theorem db {α β:Type} (p:α×β):(p.1,p.2)=p:=rfl
theorem aw {α:Type} [Data α] {xs:List α} (h:Data.sm xs):xs.length≤1048576∧ ∀x,x∈xs→Data.sm x:=h
theorem df {α:Type} [Data α] {xs:List α} (h:Data.lim xs):xs.length≤9223372036854775807∧ ∀x,x∈xs→Data.lim x:=h
end D
set_option synthInstance.maxSize 20000
set_option synthInstance.maxHeartbeats 2000000
namespace D
open Go.RowKit
theorem NI:D9 tJ:=fun xs l hl h0 h1=>szF xs (df hl).1 (fun _=>trivial) h0 h1
theorem Ju:D9 sf:=fun xs l hl h0 h1=>szF xs (df hl).1 (fun _=>trivial) h0 h1
theorem NJ:D9 tK:=fun xs l hl h0 h1=>szL (f:=kS xs) xs (df hl).1 (fun i h l k0 k1=>by
 obtain ⟨r,e,hr⟩:=Ju xs[i] l ((df hl).2 _ (List.getElem_mem h)) k0 k1
 refine ⟨r,?_,hr⟩
 simp only[kS,a6 h,if_true,ah h,Option.bind_some,db,e,aa (show i<9223372036854775807 by have:=(df hl).1;omega)]
 exact dR (by simp)) (fun l=>by simp only[kS,aO];rfl) h0 h1
theorem Dz:D9 jM:=by
 intro x l hl h0 h1
 unfold jM
 try simp only[db]
 obtain ⟨r1,e1,k1⟩:=NI x.2.1 l hl.2.1 (by omega) (by omega)
 rw[e1];simp only[Option.bind_some]
 rcases k1 with k1 | ⟨k1,j1,s1⟩
 ·exact ⟨-1,by rw[if_pos (decide_eq_true k1)],.inl (by decide)⟩
 rw[if_neg (by simpa using k1)]
 obtain ⟨r2,e2,k2⟩:=NJ x.2.2 r1 hl.2.2 (by omega) (by omega)
 rw[e2];simp only[Option.bind_some]
 rcases k2 with k2 | ⟨k2,j2,s2⟩
 ·exact ⟨-1,by rw[if_pos (decide_eq_true k2)],.inl (by decide)⟩
 rw[if_neg (by simpa using k2)]
 exact ⟨_,rfl,.inr ⟨by omega,by omega,⟨trivial,s1,s2⟩⟩⟩
theorem By:D9 lY:=fun xs l hl h0 h1=>szL (f:=fw xs) xs (df hl).1 (fun i h l k0 k1=>by
 obtain ⟨r,e,hr⟩:=Dz xs[i] l ((df hl).2 _ (List.getElem_mem h)) k0 k1
 refine ⟨r,?_,hr⟩
 simp only[fw,a6 h,if_true,ah h,Option.bind_some,db,e,aa (show i<9223372036854775807 by have:=(df hl).1;omega)]
 exact dR (by simp)) (fun l=>by simp only[fw,aO];rfl) h0 h1
theorem KX:D9 rb:=fun xs l hl h0 h1=>szF xs (df hl).1 (fun _=>⟨trivial,trivial,trivial,trivial⟩) h0 h1
theorem QN:D9 si:=by
 intro x l hl h0 h1
 unfold si
 try simp only[db]
 obtain ⟨r1,e1,k1⟩:=KX x l hl (by omega) (by omega)
 rw[e1];simp only[Option.bind_some]
 rcases k1 with k1 | ⟨k1,j1,s1⟩
 ·exact ⟨-1,by rw[if_pos (decide_eq_true k1)],.inl (by decide)⟩
 rw[if_neg (by simpa using k1)]
 exact ⟨_,rfl,.inr ⟨by omega,by omega,s1⟩⟩
theorem Bz:D9 iR:=by
 intro x l hl h0 h1
 unfold iR
 try simp only[db]
 obtain ⟨r1,e1,k1⟩:=QN x.2.1 l hl.2.1 (by omega) (by omega)
 rw[e1];simp only[Option.bind_some]
 rcases k1 with k1 | ⟨k1,j1,s1⟩
 ·exact ⟨-1,by rw[if_pos (decide_eq_true k1)],.inl (by decide)⟩
 rw[if_neg (by simpa using k1)]
 exact ⟨_,rfl,.inr ⟨by omega,by omega,⟨trivial,s1,trivial⟩⟩⟩
theorem Ax:D9 kA:=fun xs l hl h0 h1=>szL (f:=eN xs) xs (df hl).1 (fun i h l k0 k1=>by
 obtain ⟨r,e,hr⟩:=Bz xs[i] l ((df hl).2 _ (List.getElem_mem h)) k0 k1
 refine ⟨r,?_,hr⟩
 simp only[eN,a6 h,if_true,ah h,Option.bind_some,db,e,aa (show i<9223372036854775807 by have:=(df hl).1;omega)]
 exact dR (by simp)) (fun l=>by simp only[eN,aO];rfl) h0 h1
theorem FN:D9 kT:=by
 intro x l hl h0 h1
 unfold kT
 try simp only[db]
 obtain ⟨r1,e1,k1⟩:=By x.1 l hl.1 (by omega) (by omega)
 rw[e1];simp only[Option.bind_some]
 rcases k1 with k1 | ⟨k1,j1,s1⟩
 ·exact ⟨-1,by rw[if_pos (decide_eq_true k1)],.inl (by decide)⟩
 rw[if_neg (by simpa using k1)]
 obtain ⟨r2,e2,k2⟩:=Ax x.2 r1 hl.2 (by omega) (by omega)
 rw[e2];simp only[Option.bind_some]
 rcases k2 with k2 | ⟨k2,j2,s2⟩
 ·exact ⟨-1,by rw[if_pos (decide_eq_true k2)],.inl (by decide)⟩
 rw[if_neg (by simpa using k2)]
 exact ⟨_,rfl,.inr ⟨by omega,by omega,⟨s1,s2⟩⟩⟩
theorem NK:Bw pM:=by
 intro xs hx
 have hn:=(aw hx).1
 unfold pM
 rw[rK (by omega)];simp only[Option.bind_some]
 rw[toL (f:=kU xs) xs (by omega) (fun ys i h hy=>by simp only[kU,a6 h,if_true,ah h,ah (show i<ys.length by omega),Option.bind_some,db,aa (show i<9223372036854775807 by omega),Int.toNat_natCast]) (fun ys hy=>by simp only[kU,aO];rfl)]
 rfl
theorem Jv:Bw oR:=by
 intro xs hx
 have hn:=(aw hx).1
 unfold oR
 rw[rK (by omega)];simp only[Option.bind_some]
 rw[toL (f:=mq xs) xs (by omega) (fun ys i h hy=>by simp only[mq,a6 h,if_true,ah h,ah (show i<ys.length by omega),Option.bind_some,db,aa (show i<9223372036854775807 by omega),Int.toNat_natCast]) (fun ys hy=>by simp only[mq,aO];rfl)]
 rfl
theorem NL:Bw pN:=by
 intro xs hx
 have hn:=(aw hx).1
 unfold pN
 rw[rK (by omega)];simp only[Option.bind_some]
 rw[toL (f:=kV xs) xs (by omega) (fun ys i h hy=>by simp only[kV,a6 h,if_true,ah h,ah (show i<ys.length by omega),Option.bind_some,db,Jv xs[i] ((aw hx).2 _ (List.getElem_mem h)),aa (show i<9223372036854775807 by omega),Int.toNat_natCast]) (fun ys hy=>by simp only[kV,aO];rfl)]
 rfl
theorem DA:Bw jN:=by
 intro x hx
 unfold jN
 simp only[db,Option.bind_some,NK x.2.1 hx.2.1,NL x.2.2 hx.2.2]
theorem BA:Bw iS:=by
 intro xs hx
 have hn:=(aw hx).1
 unfold iS
 rw[rK (by omega)];simp only[Option.bind_some]
 rw[toL (f:=fx xs) xs (by omega) (fun ys i h hy=>by simp only[fx,a6 h,if_true,ah h,ah (show i<ys.length by omega),Option.bind_some,db,DA xs[i] ((aw hx).2 _ (List.getElem_mem h)),aa (show i<9223372036854775807 by omega),Int.toNat_natCast]) (fun ys hy=>by simp only[fx,aO];rfl)]
 rfl
theorem NM:Bw pO:=by
 intro x hx
 unfold pO
 simp only[db,Option.bind_some]
theorem KY:Bw nR:=by
 intro xs hx
 have hn:=(aw hx).1
 unfold nR
 rw[rK (by omega)];simp only[Option.bind_some]
 rw[toL (f:=jO xs) xs (by omega) (fun ys i h hy=>by simp only[jO,a6 h,if_true,ah h,ah (show i<ys.length by omega),Option.bind_some,db,NM xs[i] ((aw hx).2 _ (List.getElem_mem h)),aa (show i<9223372036854775807 by omega),Int.toNat_natCast]) (fun ys hy=>by simp only[jO,aO];rfl)]
 rfl
theorem QO:Bw sj:=by
 intro x hx
 unfold sj
 simp only[db,Option.bind_some,KY x hx]
theorem BB:Bw iT:=by
 intro x hx
 unfold iT
 simp only[db,Option.bind_some,QO x.2.1 hx.2.1]
theorem Ay:Bw gV:=by
 intro xs hx
 have hn:=(aw hx).1
 unfold gV
 rw[rK (by omega)];simp only[Option.bind_some]
 rw[toL (f:=eO xs) xs (by omega) (fun ys i h hy=>by simp only[eO,a6 h,if_true,ah h,ah (show i<ys.length by omega),Option.bind_some,db,BB xs[i] ((aw hx).2 _ (List.getElem_mem h)),aa (show i<9223372036854775807 by omega),Int.toNat_natCast]) (fun ys hy=>by simp only[eO,aO];rfl)]
 rfl
theorem FO:Bw fT:=by
 intro x hx
 unfold fT
 simp only[db,Option.bind_some,BA x.1 hx.1,Ay x.2 hx.2]
theorem NN:Bx tL:=fun xs ys hx hy=>eqL (f:=kW xs ys) xs ys (by have:=(aw hx).1;omega) (fun i h h'=>by
 simp only[kW,a6 h,if_true,ah h,ah h',Option.bind_some,db,aa (show i<9223372036854775807 by have:=(aw hx).1;omega)]
 first | exact dR (by simp) | exact oJ (by simp) | exact dR (by simp[Prod.ext_iff])) (by simp only[kW,aO];rfl)
theorem Jw:Bx sk:=fun xs ys hx hy=>eqL (f:=mr xs ys) xs ys (by have:=(aw hx).1;omega) (fun i h h'=>by
 simp only[mr,a6 h,if_true,ah h,ah h',Option.bind_some,db,aa (show i<9223372036854775807 by have:=(aw hx).1;omega)]
 first | exact dR (by simp) | exact oJ (by simp) | exact dR (by simp[Prod.ext_iff])) (by simp only[mr,aO];rfl)
theorem NO:Bx tM:=fun xs ys hx hy=>eqL (f:=kX xs ys) xs ys (by have:=(aw hx).1;omega) (fun i h h'=>by
 simp only[kX,a6 h,if_true,ah h,ah h',Option.bind_some,db,Jw xs[i] ys[i] ((aw hx).2 _ (List.getElem_mem h)) ((aw hy).2 _ (List.getElem_mem h')),aa (show i<9223372036854775807 by have:=(aw hx).1;omega)]
 first | exact dR (by simp) | exact oJ (by simp) | exact dR (by simp[Prod.ext_iff])) (by simp only[kX,aO];rfl)
theorem DB:Bx jP:=by
 intro x y hx hy
 unfold jP
 try simp only[db,Option.bind_some,NN x.2.1 y.2.1 hx.2.1 hy.2.1,NO x.2.2 y.2.2 hx.2.2 hy.2.2]
 repeat' split
 all_goals simp_all[Prod.ext_iff]
theorem BC:Bx lZ:=fun xs ys hx hy=>eqL (f:=fy xs ys) xs ys (by have:=(aw hx).1;omega) (fun i h h'=>by
 simp only[fy,a6 h,if_true,ah h,ah h',Option.bind_some,db,DB xs[i] ys[i] ((aw hx).2 _ (List.getElem_mem h)) ((aw hy).2 _ (List.getElem_mem h')),aa (show i<9223372036854775807 by have:=(aw hx).1;omega)]
 first | exact dR (by simp) | exact oJ (by simp) | exact dR (by simp[Prod.ext_iff])) (by simp only[fy,aO];rfl)
theorem NP:Bx pP:=by
 intro x y hx hy
 unfold pP
 try simp only[db,Option.bind_some]
 repeat' split
 all_goals simp_all[Prod.ext_iff]
theorem KZ:Bx re:=fun xs ys hx hy=>eqL (f:=jQ xs ys) xs ys (by have:=(aw hx).1;omega) (fun i h h'=>by
 simp only[jQ,a6 h,if_true,ah h,ah h',Option.bind_some,db,NP xs[i] ys[i] ((aw hx).2 _ (List.getElem_mem h)) ((aw hy).2 _ (List.getElem_mem h')),aa (show i<9223372036854775807 by have:=(aw hx).1;omega)]
 first | exact dR (by simp) | exact oJ (by simp) | exact dR (by simp[Prod.ext_iff])) (by simp only[jQ,aO];rfl)
theorem QP:Bx sn:=by
 intro x y hx hy
 unfold sn
 try simp only[db,Option.bind_some,KZ x y hx hy]
 repeat' split
 all_goals simp_all[Prod.ext_iff]
theorem BD:Bx iU:=by
 intro x y hx hy
 unfold iU
 try simp only[db,Option.bind_some,QP x.2.1 y.2.1 hx.2.1 hy.2.1]
 repeat' split
 all_goals simp_all[Prod.ext_iff]
theorem Az:Bx kB:=fun xs ys hx hy=>eqL (f:=eP xs ys) xs ys (by have:=(aw hx).1;omega) (fun i h h'=>by
 simp only[eP,a6 h,if_true,ah h,ah h',Option.bind_some,db,BD xs[i] ys[i] ((aw hx).2 _ (List.getElem_mem h)) ((aw hy).2 _ (List.getElem_mem h')),aa (show i<9223372036854775807 by have:=(aw hx).1;omega)]
 first | exact dR (by simp) | exact oJ (by simp) | exact dR (by simp[Prod.ext_iff])) (by simp only[eP,aO];rfl)
theorem FP:Bx kY:=by
 intro x y hx hy
 unfold kY
 try simp only[db,Option.bind_some,BC x.1 y.1 hx.1 hy.1,Az x.2 y.2 hx.2 hy.2]
 repeat' split
 all_goals simp_all[Prod.ext_iff]
theorem NQ:D9 tN:=fun xs l hl h0 h1=>szF xs (df hl).1 (fun _=>⟨trivial,trivial,trivial,trivial⟩) h0 h1
theorem NR:D9 pQ:=by
 intro x l hl h0 h1
 unfold pQ
 try simp only[db]
 obtain ⟨r1,e1,k1⟩:=Ju x.1 l hl.1 (by omega) (by omega)
 rw[e1];simp only[Option.bind_some]
 rcases k1 with k1 | ⟨k1,j1,s1⟩
 ·exact ⟨-1,by rw[if_pos (decide_eq_true k1)],.inl (by decide)⟩
 rw[if_neg (by simpa using k1)]
 obtain ⟨r2,e2,k2⟩:=NQ x.2 r1 hl.2 (by omega) (by omega)
 rw[e2];simp only[Option.bind_some]
 rcases k2 with k2 | ⟨k2,j2,s2⟩
 ·exact ⟨-1,by rw[if_pos (decide_eq_true k2)],.inl (by decide)⟩
 rw[if_neg (by simpa using k2)]
 exact ⟨_,rfl,.inr ⟨by omega,by omega,⟨s1,s2⟩⟩⟩
theorem K0:D9 rf:=fun xs l hl h0 h1=>szL (f:=jR xs) xs (df hl).1 (fun i h l k0 k1=>by
 obtain ⟨r,e,hr⟩:=NR xs[i] l ((df hl).2 _ (List.getElem_mem h)) k0 k1
 refine ⟨r,?_,hr⟩
 simp only[jR,a6 h,if_true,ah h,Option.bind_some,db,e,aa (show i<9223372036854775807 by have:=(df hl).1;omega)]
 exact dR (by simp)) (fun l=>by simp only[jR,aO];rfl) h0 h1
theorem H0:D9 mu:=by
 intro x l hl h0 h1
 unfold mu
 try simp only[db]
 obtain ⟨r1,e1,k1⟩:=K0 x.2 l hl.2 (by omega) (by omega)
 rw[e1];simp only[Option.bind_some]
 rcases k1 with k1 | ⟨k1,j1,s1⟩
 ·exact ⟨-1,by rw[if_pos (decide_eq_true k1)],.inl (by decide)⟩
 rw[if_neg (by simpa using k1)]
 exact ⟨_,rfl,.inr ⟨by omega,by omega,⟨trivial,s1⟩⟩⟩
theorem QQ:Bw so:=by
 intro x hx
 unfold so
 simp only[db,Option.bind_some]
theorem NS:Bw pR:=by
 intro xs hx
 have hn:=(aw hx).1
 unfold pR
 rw[rK (by omega)];simp only[Option.bind_some]
 rw[toL (f:=kZ xs) xs (by omega) (fun ys i h hy=>by simp only[kZ,a6 h,if_true,ah h,ah (show i<ys.length by omega),Option.bind_some,db,QQ xs[i] ((aw hx).2 _ (List.getElem_mem h)),aa (show i<9223372036854775807 by omega),Int.toNat_natCast]) (fun ys hy=>by simp only[kZ,aO];rfl)]
 rfl
theorem NT:Bw pS:=by
 intro x hx
 unfold pS
 simp only[db,Option.bind_some,Jv x.1 hx.1,NS x.2 hx.2]
theorem K4:Bw nS:=by
 intro xs hx
 have hn:=(aw hx).1
 unfold nS
 rw[rK (by omega)];simp only[Option.bind_some]
 rw[toL (f:=jS xs) xs (by omega) (fun ys i h hy=>by simp only[jS,a6 h,if_true,ah h,ah (show i<ys.length by omega),Option.bind_some,db,NT xs[i] ((aw hx).2 _ (List.getElem_mem h)),aa (show i<9223372036854775807 by omega),Int.toNat_natCast]) (fun ys hy=>by simp only[jS,aO];rfl)]
 rfl
theorem H1:Bw gW:=by
 intro x hx
 unfold gW
 simp only[db,Option.bind_some,K4 x.2 hx.2]
theorem QR:Bx sp:=by
 intro x y hx hy
 unfold sp
 try simp only[db,Option.bind_some]
 repeat' split
 all_goals simp_all[Prod.ext_iff]
theorem NU:Bx tO:=fun xs ys hx hy=>eqL (f:=k7 xs ys) xs ys (by have:=(aw hx).1;omega) (fun i h h'=>by
 simp only[k7,a6 h,if_true,ah h,ah h',Option.bind_some,db,QR xs[i] ys[i] ((aw hx).2 _ (List.getElem_mem h)) ((aw hy).2 _ (List.getElem_mem h')),aa (show i<9223372036854775807 by have:=(aw hx).1;omega)]
 first | exact dR (by simp) | exact oJ (by simp) | exact dR (by simp[Prod.ext_iff])) (by simp only[k7,aO];rfl)
theorem NV:Bx pT:=by
 intro x y hx hy
 unfold pT
 try simp only[db,Option.bind_some,Jw x.1 y.1 hx.1 hy.1,NU x.2 y.2 hx.2 hy.2]
 repeat' split
 all_goals simp_all[Prod.ext_iff]
theorem K5:Bx rh:=fun xs ys hx hy=>eqL (f:=jT xs ys) xs ys (by have:=(aw hx).1;omega) (fun i h h'=>by
 simp only[jT,a6 h,if_true,ah h,ah h',Option.bind_some,db,NV xs[i] ys[i] ((aw hx).2 _ (List.getElem_mem h)) ((aw hy).2 _ (List.getElem_mem h')),aa (show i<9223372036854775807 by have:=(aw hx).1;omega)]
 first | exact dR (by simp) | exact oJ (by simp) | exact dR (by simp[Prod.ext_iff])) (by simp only[jT,aO];rfl)
theorem H2:Bx mw:=by
 intro x y hx hy
 unfold mw
 try simp only[db,Option.bind_some,K5 x.2 y.2 hx.2 hy.2]
 repeat' split
 all_goals simp_all[Prod.ext_iff]
theorem FQ:D9 pU:=fun xs l hl h0 h1=>szF xs (df hl).1 (fun _=>⟨trivial,trivial⟩) h0 h1
theorem NW:D9 pV:=by
 intro x l hl h0 h1
 unfold pV
 try simp only[db]
 obtain ⟨r1,e1,k1⟩:=FQ x.1 l hl.1 (by omega) (by omega)
 rw[e1];simp only[Option.bind_some]
 rcases k1 with k1 | ⟨k1,j1,s1⟩
 ·exact ⟨-1,by rw[if_pos (decide_eq_true k1)],.inl (by decide)⟩
 rw[if_neg (by simpa using k1)]
 obtain ⟨r2,e2,k2⟩:=FQ x.2 r1 hl.2 (by omega) (by omega)
 rw[e2];simp only[Option.bind_some]
 rcases k2 with k2 | ⟨k2,j2,s2⟩
 ·exact ⟨-1,by rw[if_pos (decide_eq_true k2)],.inl (by decide)⟩
 rw[if_neg (by simpa using k2)]
 exact ⟨_,rfl,.inr ⟨by omega,by omega,⟨s1,s2⟩⟩⟩
theorem H3:D9 my:=by
 intro x l hl h0 h1
 unfold my
 try simp only[db]
 obtain ⟨r1,e1,k1⟩:=NW x.2.2 l hl.2.2 (by omega) (by omega)
 rw[e1];simp only[Option.bind_some]
 rcases k1 with k1 | ⟨k1,j1,s1⟩
 ·exact ⟨-1,by rw[if_pos (decide_eq_true k1)],.inl (by decide)⟩
 rw[if_neg (by simpa using k1)]
 exact ⟨_,rfl,.inr ⟨by omega,by omega,⟨trivial,trivial,s1⟩⟩⟩
theorem FR:D9 oA:=fun xs l hl h0 h1=>szL (f:=gX xs) xs (df hl).1 (fun i h l k0 k1=>by
 obtain ⟨r,e,hr⟩:=H3 xs[i] l ((df hl).2 _ (List.getElem_mem h)) k0 k1
 refine ⟨r,?_,hr⟩
 simp only[gX,a6 h,if_true,ah h,Option.bind_some,db,e,aa (show i<9223372036854775807 by have:=(df hl).1;omega)]
 exact dR (by simp)) (fun l=>by simp only[gX,aO];rfl) h0 h1
theorem QS:Bw sr:=by
 intro x hx
 unfold sr
 simp only[db,Option.bind_some]
theorem FU:Bw nl:=by
 intro xs hx
 have hn:=(aw hx).1
 unfold nl
 rw[rK (by omega)];simp only[Option.bind_some]
 rw[toL (f:=lq xs) xs (by omega) (fun ys i h hy=>by simp only[lq,a6 h,if_true,ah h,ah (show i<ys.length by omega),Option.bind_some,db,QS xs[i] ((aw hx).2 _ (List.getElem_mem h)),aa (show i<9223372036854775807 by omega),Int.toNat_natCast]) (fun ys hy=>by simp only[lq,aO];rfl)]
 rfl
theorem NX:Bw pZ:=by
 intro x hx
 unfold pZ
 simp only[db,Option.bind_some,FU x.1 hx.1,FU x.2 hx.2]
theorem H4:Bw mD:=by
 intro x hx
 unfold mD
 simp only[db,Option.bind_some,NX x.2.2 hx.2.2]
theorem FV:Bw fW:=by
 intro xs hx
 have hn:=(aw hx).1
 unfold fW
 rw[rK (by omega)];simp only[Option.bind_some]
 rw[toL (f:=il xs) xs (by omega) (fun ys i h hy=>by simp only[il,a6 h,if_true,ah h,ah (show i<ys.length by omega),Option.bind_some,db,H4 xs[i] ((aw hx).2 _ (List.getElem_mem h)),aa (show i<9223372036854775807 by omega),Int.toNat_natCast]) (fun ys hy=>by simp only[il,aO];rfl)]
 rfl
theorem QU:Bx sw:=by
 intro x y hx hy
 unfold sw
 try simp only[db,Option.bind_some]
 repeat' split
 all_goals simp_all[Prod.ext_iff]
theorem FW:Bx qb:=fun xs ys hx hy=>eqL (f:=lB xs ys) xs ys (by have:=(aw hx).1;omega) (fun i h h'=>by
 simp only[lB,a6 h,if_true,ah h,ah h',Option.bind_some,db,QU xs[i] ys[i] ((aw hx).2 _ (List.getElem_mem h)) ((aw hy).2 _ (List.getElem_mem h')),aa (show i<9223372036854775807 by have:=(aw hx).1;omega)]
 first | exact dR (by simp) | exact oJ (by simp) | exact dR (by simp[Prod.ext_iff])) (by simp only[lB,aO];rfl)
theorem NY:Bx qc:=by
 intro x y hx hy
 unfold qc
 try simp only[db,Option.bind_some,FW x.1 y.1 hx.1 hy.1,FW x.2 y.2 hx.2 hy.2]
 repeat' split
 all_goals simp_all[Prod.ext_iff]
theorem H5:Bx mF:=by
 intro x y hx hy
 unfold mF
 try simp only[db,Option.bind_some,NY x.2.2 y.2.2 hx.2.2 hy.2.2]
 repeat' split
 all_goals simp_all[Prod.ext_iff]
theorem FX:Bx oE:=fun xs ys hx hy=>eqL (f:=iu xs ys) xs ys (by have:=(aw hx).1;omega) (fun i h h'=>by
 simp only[iu,a6 h,if_true,ah h,ah h',Option.bind_some,db,H5 xs[i] ys[i] ((aw hx).2 _ (List.getElem_mem h)) ((aw hy).2 _ (List.getElem_mem h')),aa (show i<9223372036854775807 by have:=(aw hx).1;omega)]
 first | exact dR (by simp) | exact oJ (by simp) | exact dR (by simp[Prod.ext_iff])) (by simp only[iu,aO];rfl)
end D
namespace D
open Go.RowKit
theorem cm {R S:Type} {f:S→Option (Out R S)} (Inv:Nat→S→Prop) (Q:Out R S→Prop) (N:Nat)
  (h: ∀i s,i≤N→Inv i s→(i<N∧ ∃s',f s=some (.nxt s')∧Inv (i+1) s')∨ ∃o,f s=some o∧(∀s',o≠ .nxt s')∧Q o) {s:S} (h0:Inv 0 s) (hN:N<aC): ∃o,ai f aC s=some o∧Q o:=by
 have key: ∀(k i:Nat) (s:S),i≤N→N<i+k→Inv i s→ ∃o,ai f k s=some o∧Q o:=by
  intro k
  induction k with
  | zero=>intro i s h1 h2;omega
  | succ k ih =>
   intro i s h1 h2 hI
   rcases h i s h1 hI with ⟨hi,s',e,hI'⟩ | ⟨o,e,hn,hq⟩
   ·obtain ⟨o,e',hq⟩:=ih (i+1) s' (by omega) (by omega) hI'
    exact ⟨o,by rw[ai,e];exact e',hq⟩
   ·refine ⟨o,?_,hq⟩
    rw[ai,e]
    cases o with
    | nxt s'=>exact absurd rfl (hn s')
    | brk s'=>rfl
    | ret r=>rfl
 exact key aC 0 s (by omega) (by omega) h0
theorem fS {R S:Type} {f:S→Option (Out R S)} (Inv:Nat→S→Prop) (N:Nat) (h: ∀i s,i<N→Inv i s→ ∃s',f s=some (.nxt s')∧Inv (i+1) s') (he: ∀s,Inv N s→f s=some (.brk s)) {s:S} (h0:Inv 0 s) (hN:N<aC): ∃s',ai f aC s=some (.brk s')∧Inv N s':=by
 obtain ⟨o,e,s',rfl,h⟩:=cm (f:=f) Inv (fun o=> ∃s',o= .brk s'∧Inv N s') N (fun i s hi hI=>by
  by_cases h1:i<N
  ·exact .inl ⟨h1,h i s h1 hI⟩
  ·obtain rfl:i=N:=by omega
   exact .inr ⟨_,he s hI,(fun s' e=>by cases e),s,rfl,hI⟩) h0 hN
 exact ⟨s',e,h⟩
theorem aD {R S:Type} {f:S→Option (Out R S)} (st:Nat→S) (N:Nat) (h: ∀i,i<N→f (st i)=some (.nxt (st (i+1)))) (he:f (st N)=some (.brk (st N))) (hN:N<aC):ai f aC (st 0)=some (.brk (st N)):=FM st N h he hN
theorem mb {k:Nat} (h:k≤9223372036854775807):k<aC:=iy k h
theorem vx {i:Nat} (h:i≤9223372036854775807):IntKind.i64.wrap (i:Int)=(i:Int):=cB (by omega) (by omega)
theorem nE {i:Nat} (h:i≤9223372036854775807):IntKind.i64.wrap ((i:Int) - 1)=(i:Int) - 1:=cB (by omega) (by omega)
theorem au {α:Type} {b:Nat} {xs ys:List α} (h:(xs.length+ys.length)*b≤140737488355328):cn b xs ys=some (xs++ys):=by unfold cn;rw[if_pos h]
theorem aT {R S T:Type} {x:Option (Out R S)} {r:R} {kr:R→Option T} {k:S→Option T} (h:x=some (.ret r)):ax x kr k=kr r:=by rw[h];rfl
theorem af {R S T:Type} {x:Option (Out R S)} {s:S} {kr:R→Option T} {k:S→Option T} (h:x=some (.brk s)):ax x kr k=k s:=by rw[h];rfl
def nth {α:Type} [Inhabited α] (xs:List α) (i:Int):α:=xs.getD i.toNat default
section
variable {α:Type} [Inhabited α] {xs ys:List α}
theorem ak {i:Int} (h0:0≤i) (h1:i<xs.length):az xs i=some (nth xs i):=by
 unfold az nth
 rw[if_pos h0]
 have:i.toNat<xs.length:=by omega
 simp[List.getD_eq_getElem?_getD,this]
theorem bY {i:Nat} (h:i<xs.length):nth xs (i:Int)=xs[i]:=by simp[nth,List.getD_eq_getElem?_getD,h]
theorem bH {i:Int} (h0:0≤i) (h1:i<xs.length):nth xs i∈xs:=by
 have:i.toNat<xs.length:=by omega
 have e:nth xs i=xs[i.toNat]:=by simp[nth,List.getD_eq_getElem?_getD,this]
 rw[e];exact List.getElem_mem this
theorem nF {i:Int} (h0:0≤i) (h1:i<xs.length):nth (xs++ys) i=nth xs i:=by
 have:i.toNat<xs.length:=by omega
 simp[nth,List.getD_eq_getElem?_getD,List.getElem?_append_left this]
theorem Us {β:Type} [Inhabited β] {f:α→β} {i:Int} (h0:0≤i) (h1:i<xs.length):nth (xs.map f) i=f (nth xs i):=by
 have:i.toNat<xs.length:=by omega
 simp[nth,List.getD_eq_getElem?_getD,this]
theorem DC {x:α} (h:x∈xs): ∃i:Nat,i<xs.length∧nth xs (i:Int)=x:=by
 obtain ⟨i,hi,rfl⟩:=List.getElem_of_mem h
 exact ⟨i,hi,bY hi⟩
theorem ot {i:Int} {x:α} (h0:0≤i) (h1:i<xs.length):nth (xs.set i.toNat x) i=x:=by
 have:i.toNat<xs.length:=by omega
 simp[nth,List.getD_eq_getElem?_getD,this]
theorem sB {i j:Int} {x:α} (h0:0≤i) (hj:0≤j) (h:i≠j):nth (xs.set i.toNat x) j=nth xs j:=by
 have:i.toNat≠j.toNat:=by omega
 simp[nth,List.getD_eq_getElem?_getD,List.getElem?_set_ne this]
theorem Ut (h:xs.length=ys.length) (k: ∀i:Nat,i<xs.length→nth xs (i:Int)=nth ys (i:Int)):xs=ys:=by
 refine List.ext_getElem h fun i h1 h2=>?_
 have:=k i h1
 rwa [bY h1,bY h2] at this
end
section
variable {κ:Type} [DecidableEq κ]
def nbL (l:List κ):Option κ→List κ
 | none=>l
 | some x=>if x∈l then l else l++ [x]
def nbI (l:List κ):Option κ→Int
 | none=> -1
 | some x=>(l.idxOf x:Int)
def nbS (l:List κ) (os:List (Option κ)):List κ:=os.foldl nbL l
def nbR (l:List κ):List (Option κ)→List Int
 | [] =>[]
 | o::os=>nbI l o::nbR (nbL l o) os
theorem vy (l:List κ) (os:List (Option κ)) (o:Option κ):nbS l (os++ [o])=nbL (nbS l os) o:=by simp[nbS]
theorem sC: ∀(l:List κ) (os:List (Option κ)) (o:Option κ),nbR l (os++ [o])=nbR l os++ [nbI (nbS l os) o]
 | l,[],o=>rfl
 | l,p::os,o=>by
  show nbI l p::nbR (nbL l p) (os++ [o])=nbI l p::nbR (nbL l p) os++ [nbI (nbS (nbL l p) os) o]
  rw[sC (nbL l p) os o];rfl
theorem dZ: ∀(l:List κ) (os:List (Option κ)),(nbR l os).length=os.length
 | l,[] =>rfl
 | l,o::os=>by show (nbR (nbL l o) os).length+1=_;rw[dZ];rfl
theorem K6 (l : List κ) (o : Option κ) : l <+: nbL l o := by
  cases o with
  | none => exact List.prefix_refl l
  | some x => unfold nbL; simp only; split
              · exact List.prefix_refl l
              · exact List.prefix_append l [x]
theorem kO: ∀(l:List κ) (os:List (Option κ)),l <+:nbS l os
 | l,[] =>List.prefix_refl l
 | l,o::os=>(K6 l o).trans (kO (nbL l o) os)
theorem NZ {l : List κ} {o : Option κ} (h : l.Nodup) : (nbL l o).Nodup := by
  cases o with
  | none => exact h
  | some x => unfold nbL; simp only; split
              · exact h
              · rename_i hx; exact List.nodup_append.2 ⟨h, by simp, by rintro a ha b hb rfl; simp at hb; exact hx (hb ▸ ha)⟩
theorem rL: ∀ {l:List κ} {os:List (Option κ)},l.Nodup→(nbS l os).Nodup
 | l,[],h=>h
 | l,o::os,h=>rL (l:=nbL l o) (os:=os) (NZ h)
theorem N1 {l : List κ} {o : Option κ} {x : κ} : x ∈ nbL l o ↔ x ∈ l ∨ o = some x := by
  cases o with
  | none => simp [nbL]
  | some y => unfold nbL; simp only; split
              · rename_i h; constructor
                · exact .inl
                · rintro (h' | h')
                  · exact h'
                  · simp at h'; exact h' ▸ h
              · simp; exact or_congr Iff.rfl eq_comm
theorem wP: ∀ {l:List κ} {os:List (Option κ)} {x:κ},x∈nbS l os↔x∈l∨some x∈os
 | l,[],x=>by simp[nbS]
 | l,o::os,x=>by
  show x∈nbS (nbL l o) os↔_
  rw[wP,N1,List.mem_cons,or_assoc]
  exact or_congr Iff.rfl (or_congr eq_comm Iff.rfl)
theorem mc {l:List κ} {x:κ} (h:x∈l):nbL l (some x)=l:=by simp[nbL,h]
theorem kP {l:List κ} {x:κ} (h:x∉l):nbL l (some x)=l++ [x]:=by simp[nbL,h]
theorem px {l:List κ} {x:κ} (h:x∉l):l.idxOf x=l.length:=List.idxOf_eq_length h
def bfS (nx:κ→List (Option κ)) (first:κ):Nat→List κ
 | 0=>[first]
 | i+1=>match (bfS nx first i)[i]? with
  | some x=>nbS (bfS nx first i) (nx x)
  | none=>bfS nx first i
def bfR (nx:κ→List (Option κ)) (first:κ):Nat→List (List Int)
 | 0=>[]
 | i+1=>bfR nx first i++(match (bfS nx first i)[i]? with
  | some x=>[nbR (bfS nx first i) (nx x)]
  | none=>[])
variable {nx:κ→List (Option κ)} {first:κ}
theorem DD {i:Nat} (h:i<(bfS nx first i).length):bfS nx first (i+1)=nbS (bfS nx first i) (nx ((bfS nx first i)[i])):=by
 rw[bfS,List.getElem?_eq_getElem h]
theorem vz {i:Nat} (h:i<(bfS nx first i).length):bfR nx first (i+1)=bfR nx first i++ [nbR (bfS nx first i) (nx ((bfS nx first i)[i]))]:=by
 rw[bfR,List.getElem?_eq_getElem h]
theorem br (i:Nat):bfS nx first i <+:bfS nx first (i+1):=by
 rw[bfS]
 split
 ·exact kO _ _
 ·exact List.prefix_refl _
theorem wQ {i j:Nat} (h:i≤j):bfS nx first i <+:bfS nx first j:=by
 induction h with
 | refl=>exact List.prefix_refl _
 | step _ ih=>exact ih.trans (br _)
theorem py: ∀i,(bfS nx first i).Nodup
 | 0=>by simp[bfS]
 | i+1=>by
  rw[bfS]
  split
  ·exact rL (py i)
  ·exact py i
theorem lE {G:κ→Prop} (h0:G first) (h: ∀x,G x→ ∀y,some y∈nx x→G y): ∀i,∀x∈bfS nx first i,G x
 | 0=>by simp[bfS];exact h0
 | i+1=>by
  rw[bfS]
  split
  ·rename_i y hy
   intro x hx
   rcases wP.1 hx with hx | hx
   ·exact lE h0 h i x hx
   ·exact h y (lE h0 h i y (List.mem_of_getElem? hy)) x hx
  ·exact lE h0 h i
theorem FY (i:Nat):(bfS nx first i)[0]? =some first:=by
 obtain ⟨t,ht⟩:=wQ (nx:=nx) (first:=first) (Nat.zero_le i)
 rw[←ht];rfl
theorem jx: ∀ {i:Nat},(∀j,j<i→j<(bfS nx first j).length)→(bfR nx first i).length=i
 | 0,_=>rfl
 | i+1,h=>by rw[vz (h i (by omega)),List.length_append,jx fun j hj=>h j (by omega)];rfl
def bfE (nx:κ→List (Option κ)) (first:κ) (N:Nat):Prop:=N=(bfS nx first N).length∧ ∀i,i<N→i<(bfS nx first i).length
theorem Sa {B:Nat} (hB: ∀i,(bfS nx first i).length≤B): ∃N,N≤B∧bfE nx first N:=by
 have key: ∀m i,i+m=B→(∀j,j<i→j<(bfS nx first j).length)→ ∃N,N≤B∧bfE nx first N:=by
  intro m
  induction m with
  | zero =>
   intro i hi hj
   have h1:=hB i
   have h2:i≤(bfS nx first i).length:=by
    cases i with
    | zero=>omega
    | succ i =>
     have:=hj i (by omega)
     have hp:=(br (nx:=nx) (first:=first) i).length_le
     omega
   exact ⟨i,by omega,by omega,hj⟩
  | succ m ih =>
   intro i hi hj
   by_cases h:i<(bfS nx first i).length
   ·exact ih (i+1) (by omega) fun j hj'=>by
     by_cases e:j=i
     ·subst e;exact h
     ·exact hj j (by omega)
   ·have h2:i≤(bfS nx first i).length:=by
     cases i with
     | zero=>omega
     | succ i =>
      have:=hj i (by omega)
      have hp:=(br (nx:=nx) (first:=first) i).length_le
      omega
    exact ⟨i,by omega,by omega,hj⟩
 exact key B 0 (by omega) (by omega)
theorem QV {N M:Nat} (h:bfE nx first N) (k:bfE nx first M):N=M:=by
 rcases Nat.lt_trichotomy N M with e | e | e
 ·have:=k.2 N e;have:=h.1;omega
 ·exact e
 ·have:=h.2 M e;have:=k.1;omega
end
end D
namespace D
open Go.RowKit
abbrev AutT:=Int×(List Bool)×(List (List Int))
structure VA (a:AutT) (n:Nat):Prop where
 len:a.2.1.length=n
 start:0≤a.1∧a.1<n
 nlen:a.2.2.length=n
 row: ∀r∈a.2.2,r.length=9
 ent: ∀r∈a.2.2,∀t∈r,-1≤t∧t<n
def mv (a:AutT) (s:Int) (k:Nat):Int:=nth (nth a.2.2 s) k
theorem OY (x l h:Int):ct x l h=some (decide (l≤x∧x≤h)):=by
 unfold ct
 by_cases c:l≤x
 ·simp[c]
 ·have: ¬l≤x∧True:=⟨c,trivial⟩
  simp[c]
theorem Ea (x l h:Int):bg x l h=some (decide (l≤x∧x≤h)):=by
 unfold bg
 by_cases c:l≤x
 ·simp[c]
 ·simp[c]
theorem scan {α R:Type} [Inhabited α] {f:Int→Option (Out R Int)} (xs:List α) (p:α→Prop) [DecidablePred p] (r:R) (hN:xs.length≤9223372036854775807)
  (h: ∀i:Nat,i<xs.length→f (i:Int)=some (if p (nth xs i) then .nxt ((i+1:Nat):Int) else .ret r)) (he:f (xs.length:Int)=some (.brk (xs.length:Int))) :
  (ai f aC 0=some (.brk (xs.length:Int))∧ ∀x∈xs,p x)∨(ai f aC 0=some (.ret r)∧ ¬ ∀x∈xs,p x):=by
 obtain ⟨o,e,hq⟩:=cm (f:=f) (fun i s=>s=(i:Int)∧ ∀j:Nat,j<i→p (nth xs j)) (fun o=>(o= .brk (xs.length:Int)∧ ∀x∈xs,p x)∨(o= .ret r∧ ¬ ∀x∈xs,p x)) xs.length (s:=0) (by
  rintro i s hi ⟨rfl,hp⟩
  by_cases hl:i<xs.length
  ·by_cases c:p (nth xs i)
   ·refine .inl ⟨hl,_,by rw[h i hl,if_pos c],rfl,fun j hj=>?_⟩
    by_cases e:j=i
    ·subst e;exact c
    ·exact hp j (by omega)
   ·refine .inr ⟨_,by rw[h i hl,if_neg c],(fun s' e=>by cases e),.inr ⟨rfl,fun hx=>c (hx _ (bH (by omega) (by omega)))⟩⟩
  ·obtain rfl:i=xs.length:=by omega
   refine .inr ⟨_,he,(fun s' e=>by cases e),.inl ⟨rfl,fun x hx=>?_⟩⟩
   obtain ⟨j,hj,rfl⟩:=DC hx
   exact hp j hj) ⟨rfl,by omega⟩ (mb hN)
 rcases hq with ⟨rfl,hq⟩ | ⟨rfl,hq⟩
 ·exact .inl ⟨e,hq⟩
 ·exact .inr ⟨e,hq⟩
section
variable {a:AutT} {n:Nat} (V:VA a n)
include V
theorem VA.pos:0<n:=by have:=V.start;omega
theorem VA.rowAt {s:Int} (h0:0≤s) (h1:s<n):(nth a.2.2 s).length=9:=V.row _ (bH h0 (by rw[V.nlen];exact h1))
theorem VA.mv {s:Int} {k:Nat} (h0:0≤s) (h1:s<n) (hk:k<9): -1≤mv a s k∧mv a s k<n:=
 V.ent _ (bH h0 (by rw[V.nlen];exact h1)) _ (bH (by omega) (by rw[V.rowAt h0 h1];omega))
theorem VA.get {s:Int} (h0:0≤s) (h1:s<n):az a.2.2 s=some (nth a.2.2 s):=ak h0 (by rw[V.nlen];exact h1)
theorem VA.get2 {s:Int} {k:Nat} (h0:0≤s) (h1:s<n) (hk:k<9):az (nth a.2.2 s) (k:Int)=some (D.mv a s k):=ak (by omega) (by rw[V.rowAt h0 h1];omega)
theorem VA.acc {s:Int} (h0:0≤s) (h1:s<n):az a.2.1 s=some (nth a.2.1 s):=ak h0 (by rw[V.len];exact h1)
theorem FZ {s:Int} {k:Nat} (h0:0≤s) (h1:s<n) (hk:k<9):bc a s (k:Int)=some (mv a s k):=by
 unfold bc jr
 rw[if_neg (by simp;omega),Ea];simp only[Option.bind_some]
 rw[if_pos (by simp;omega),V.get h0 h1];simp only[Option.bind_some]
 rw[V.get2 h0 h1 hk];rfl
end
end D
namespace D
open Go.RowKit
abbrev Tok:=Int×Int×Int×Int
def ar (t:Tok):Int:=
 if t.1=1∨t.1=2 then (if t.2.1=0∧t.2.2.1=0∧t.2.2.2=0 then 0 else -1)
 else if t.1=3 then (if (0≤t.2.1∧t.2.1≤8)∧t.2.2.1=0∧t.2.2.2=0 then 0 else -1)
 else if t.1=4∨t.1=5 then (if t.2.1=0∧t.2.2.1=0∧t.2.2.2=0 then 2 else -1)
 else if t.1=6 then (if t.2.1=0∧t.2.2.1=0∧t.2.2.2=0 then 1 else -1)
 else if t.1=7 then (if t.2.1=0∧(0≤t.2.2.1∧t.2.2.1≤t.2.2.2)∧(1≤t.2.2.2∧t.2.2.2≤3) then 1 else -1)
 else -1
theorem QW (x:Int):nT x=some (decide (0≤x∧x≤8)):=by unfold nT;rw[OY];rfl
theorem QX (x:Int):jr x=some (decide (0≤x∧x≤8)):=by unfold jr;rw[Ea];rfl
theorem YL (t:Tok):mZ t=some (ar t):=by
 obtain ⟨k,l,lo,hi⟩:=t
 unfold mZ ar
 simp only[QW,OY,Option.bind_some]
 by_cases h1:k=1
 ·subst h1;simp;grind
 by_cases h2:k=2
 ·subst h2;simp;grind
 by_cases h3:k=3
 ·subst h3;simp;grind
 by_cases h4:k=4
 ·subst h4;simp;grind
 by_cases h5:k=5
 ·subst h5;simp;grind
 by_cases h6:k=6
 ·subst h6;simp;grind
 by_cases h7:k=7
 ·subst h7;simp;grind
 simp[h1,h2,h3,h4,h5,h6,h7]
theorem Wg (t:Tok):p7 t=some (decide (0≤ar t)):=by
 obtain ⟨k,l,lo,hi⟩:=t
 unfold p7 ar
 simp only[QX,Ea,Option.bind_some]
 by_cases h1:k=1
 ·subst h1;simp;grind
 by_cases h2:k=2
 ·subst h2;simp;grind
 by_cases h3:k=3
 ·subst h3;simp only[]
  by_cases a:0≤l∧l≤8 <;> by_cases b:lo=0 <;> by_cases c:hi=0 <;> simp[a,b,c]
 by_cases h4:k=4
 ·subst h4;simp;grind
 by_cases h5:k=5
 ·subst h5;simp;grind
 by_cases h6:k=6
 ·subst h6;simp;grind
 by_cases h7:k=7
 ·subst h7;simp only[]
  by_cases a:l=0 <;> by_cases b:0≤lo∧lo≤hi <;> by_cases c:1≤hi∧hi≤3 <;> simp[a,b,c]
 simp[h1,h2,h3,h4,h5,h6,h7]
theorem vA (t:Tok): -1≤ar t∧ar t≤2:=by
 unfold ar
 grind
theorem nG {t:Tok} (h:0≤ar t):(ar t=2∧(t.1=4∨t.1=5))∨(ar t=1∧(t.1=6∨t.1=7))∨(ar t=0∧(t.1=1∨t.1=2∨t.1=3)):=by
 unfold ar at h⊢
 grind
theorem AA {t:Tok} (h:0≤ar t) (k:t.1=7):(0≤t.2.2.1∧t.2.2.1≤t.2.2.2)∧(1≤t.2.2.2∧t.2.2.2≤3):=by
 unfold ar at h
 grind
mutual
def flat:Tr Tok→List Tok
 | .nil=>[]
 | .node t ks=>jj ks++ [t]
def jj:List (Tr Tok)→List Tok
 | [] =>[]
 | k::ks=>flat k++jj ks
end
inductive WT:Tr Tok→Prop
 | node {t:Tok} {ks:List (Tr Tok)} :ar t=(ks.length:Int)→(∀k,k∈ks→WT k)→WT (.node t ks)
theorem pz: ∀(a b:List (Tr Tok)),jj (a++b)=jj a++jj b
 | [],b=>rfl
 | k::a,b=>by rw[List.cons_append,jj,jj,pz a b,List.append_assoc]
theorem lU (x:Tr Tok):jj [x] =flat x:=by rw[jj,jj,List.append_nil]
theorem N2 (x y:Tr Tok):jj [x,y] =flat x++flat y:=by rw[jj,lU]
theorem WT.cases {x:Tr Tok} (h:WT x):(∃t,x= .node t [] ∧ar t=0)∨(∃t a,x= .node t [a] ∧ar t=1∧WT a)∨ ∃t a b,x= .node t [a,b] ∧ar t=2∧WT a∧WT b:=by
 cases h with
 | @node t ks h1 h2 =>
  have:=(vA t).2
  match ks,h1,h2 with
  | [],h1,h2=>exact .inl ⟨t,rfl,h1⟩
  | [a],h1,h2=>exact .inr (.inl ⟨t,a,rfl,h1,h2 a (by simp)⟩)
  | [a,b],h1,h2=>exact .inr (.inr ⟨t,a,b,rfl,h1,h2 a (by simp),h2 b (by simp)⟩)
  | _::_::_::_,h1,h2=>simp at h1;omega
theorem WT.ind {p:Tr Tok→Prop} (h0: ∀t,ar t=0→p (.node t [])) (h1: ∀t a,ar t=1→WT a→p a→p (.node t [a])) (h2: ∀t a b,ar t=2→WT a→WT b→p a→p b→p (.node t [a,b])) {x:Tr Tok} (h:WT x):p x:=by
 induction h with
 | @node t ks e k ih =>
  have:=(vA t).2
  match ks,e,k,ih with
  | [],e,k,ih=>exact h0 t e
  | [a],e,k,ih=>exact h1 t a e (k a (by simp)) (ih a (by simp))
  | [a,b],e,k,ih=>exact h2 t a b e (k a (by simp)) (k b (by simp)) (ih a (by simp)) (ih b (by simp))
  | _::_::_::_,e,_,_=>simp at e;omega
theorem BE (t:Tok):flat (.node t [])= [t]:=by rw[flat,jj];rfl
theorem DE (t:Tok) (a:Tr Tok):flat (.node t [a])=flat a++ [t]:=by rw[flat,lU]
theorem ui (t:Tok) (a b:Tr Tok):flat (.node t [a,b])=(flat a++flat b)++ [t]:=by rw[flat,N2]
theorem WT.pos {x:Tr Tok} (h:WT x):1≤(flat x).length:=by
 cases h with
 | node h1 h2=>rw[flat];simp
def stp (s:List (Tr Tok)) (t:Tok):Option (List (Tr Tok)):=if ar t<0∨(s.length:Int)<ar t then none else some (s.take (s.length - (ar t).toNat)++ [.node t (s.drop (s.length - (ar t).toNat))])
def run:List (Tr Tok)→List Tok→Option (List (Tr Tok))
 | s,[] =>some s
 | s,t::l=>(stp s t).bind fun s'=>run s' l
theorem DF: ∀(a:List Tok) {b:List Tok} {s:List (Tr Tok)},run s (a++b)=(run s a).bind fun s'=>run s' b
 | [],b,s=>rfl
 | t::a,b,s=>by
  rw[List.cons_append,run,run]
  cases stp s t with
  | none=>rfl
  | some s'=>exact DF a
theorem vB {a:List Tok} {t:Tok} {s:List (Tr Tok)} :run s (a++ [t])=(run s a).bind fun s'=>stp s' t:=by
 rw[DF]
 congr 1
 funext s'
 rw[run]
 cases stp s' t <;> rfl
theorem Sb: ∀ {l:List Tok} {s s':List (Tr Tok)},run s l=some s'→(∀k,k∈s→WT k)→(∀k,k∈s'→WT k)∧jj s'=jj s++l
 | [],s,s',h,hs=>by
  obtain rfl:=Option.some.inj h
  exact ⟨hs,by simp⟩
 | t::l,s,s',h,hs=>by
  rw[run] at h
  unfold stp at h
  by_cases c:ar t<0∨(s.length:Int)<ar t
  ·rw[if_pos c] at h;cases h
  ·rw[if_neg c] at h
   have hlen:(s.drop (s.length - (ar t).toNat)).length=(ar t).toNat:=by rw[List.length_drop];omega
   obtain ⟨k1,k2⟩:=Sb (show run _ l=some s' from h) fun k hk=>by
    rcases List.mem_append.1 hk with hk | hk
    ·exact hs k (List.mem_of_mem_take hk)
    ·obtain rfl:=List.mem_singleton.1 hk
     exact .node (by rw[hlen];omega) fun k hk=>hs k (List.mem_of_mem_drop hk)
   refine ⟨k1,?_⟩
   rw[k2,pz,lU,flat,←List.append_assoc,←pz,List.take_append_drop]
   simp
theorem QY {x:Tr Tok} (h:WT x): ∀s,run s (flat x)=some (s++ [x]):=by
 refine WT.ind (p:=fun x=> ∀s,run s (flat x)=some (s++ [x])) ?_ ?_ ?_ h
 ·intro t e s
  rw[BE,run,stp,if_neg (by omega),e]
  simp[run]
 ·intro t a e _ ia s
  rw[DE,vB,ia]
  show stp (s++ [a]) t=_
  rw[stp,if_neg (by simp;omega),e]
  simp
 ·intro t a b e _ _ ia ib s
  rw[ui,vB,DF,ia]
  show ((run (s++ [a]) (flat b)).bind fun s'=>stp s' t)=_
  rw[ib]
  show stp (s++ [a] ++ [b]) t=_
  rw[stp,if_neg (by simp;omega),e]
  have:(s++ [a] ++ [b]).length - (2:Int).toNat=s.length:=by simp
  rw[this]
  simp
def isX (e:List Tok):Bool:=match run [] e with
 | some [_] =>true
 | _=>false
theorem N3 {e:List Tok} (h:isX e=true): ∃x,run [] e=some [x] ∧WT x∧flat x=e:=by
 unfold isX at h
 split at h
 ·rename_i x hx
  obtain ⟨k1,k2⟩:=Sb hx (fun k hk=>by cases hk)
  refine ⟨x,hx,k1 x (by simp),?_⟩
  rw[lU] at k2
  rw[k2];rfl
 ·cases h
theorem N4 {l:List Tok} : ∀ {s s':List (Tr Tok)},run s l=some s'→s'.length≤s.length+l.length:=by
 induction l with
 | nil=>intro s s' h;obtain rfl:=Option.some.inj h;simp
 | cons t l ih =>
  intro s s' h
  rw[run] at h
  obtain ⟨s1,h1,h2⟩:=Option.bind_eq_some_iff.1 h
  have h3:=ih h2
  unfold stp at h1
  split at h1
  ·cases h1
  ·obtain rfl:=Option.some.inj h1
   simp only[List.length_append,List.length_take,List.length_cons,List.length_nil] at h3⊢
   omega
theorem AB {e:List Tok} {i:Nat} (h:i<e.length):e.take (i+1)=e.take i++ [nth e (i:Int)]:=by
 rw[List.take_succ_eq_append_getElem h,bY h]
theorem yo {e:List Tok} {i:Nat} (h:i<e.length) {st:List (Tr Tok)} (h1:run [] (e.take i)=some st) (h2:stp st (nth e (i:Int))=none):run [] e=none:=by
 have:run [] (e.take (i+1))=none:=by rw[AB h,vB,h1];exact h2
 rw[←List.take_append_drop (i+1) e,DF,this];rfl
theorem QZ {e:List Tok} (he:e.length≤1048576):sq e=some (isX e):=by
 obtain ⟨o,eo,hq⟩:=cm (f:=pW e) (fun i s=> ∃st,s=((st.length:Int),(i:Int))∧run [] (e.take i)=some st) (fun o=>(o= .ret false∧run [] e=none)∨ ∃st,o= .brk ((st.length:Int),(e.length:Int))∧run [] e=some st) e.length (s:=(0,0)) (by
  rintro i s hi ⟨st,rfl,hst⟩
  have hl:=N4 hst
  simp only[List.length_nil,List.length_take] at hl
  unfold pW
  simp only[db]
  by_cases c:i<e.length
  ·rw[if_pos (by simp;omega),ak (by omega) (by omega)];simp only[Option.bind_some]
   rw[YL];simp only[Option.bind_some]
   have hr:=vA (nth e (i:Int))
   by_cases c1:ar (nth e (i:Int))<0
   ·refine .inr ⟨_,by rw[if_pos (by simpa using c1)],(fun s' e=>by cases e),.inl ⟨rfl,yo c hst ?_⟩⟩
    rw[stp,if_pos (.inl c1)]
   ·rw[if_neg (by simpa using c1)]
    by_cases c2:ar (nth e (i:Int))>(st.length:Int)
    ·refine .inr ⟨_,by rw[if_pos (by simpa using c2)],(fun s' e=>by cases e),.inl ⟨rfl,yo c hst ?_⟩⟩
     rw[stp,if_pos (.inr c2)]
    ·rw[if_neg (by simpa using c2)]
     refine .inl ⟨c,_,rfl,st.take (st.length - (ar (nth e (i:Int))).toNat)++ [.node (nth e (i:Int)) (st.drop (st.length - (ar (nth e (i:Int))).toNat))],?_,?_⟩
     ·rw[cB (n:=(st.length:Int) - ar (nth e (i:Int))) (by omega) (by omega),cB (by omega) (by omega),aa (by omega)]
      congr 1
      simp only[List.length_append,List.length_take,List.length_cons,List.length_nil]
      omega
     ·rw[AB c,vB,hst]
      show stp st _=_
      rw[stp,if_neg (by omega)]
  ·obtain rfl:i=e.length:=by omega
   rw[List.take_of_length_le (by omega)] at hst
   exact .inr ⟨_,by rw[if_neg (by simp)],(fun s' e=>by cases e),.inr ⟨st,rfl,hst⟩⟩) ⟨[],rfl,rfl⟩ (mb (by omega))
 unfold sq
 rcases hq with ⟨rfl,h⟩ | ⟨st,rfl,h⟩
 ·rw[aT eo];unfold isX;rw[h]
 ·rw[af eo];unfold isX;rw[h]
  match st with
  | [] =>rfl
  | [_] =>rfl
  | _::_::_=>simp;omega
theorem XO {t:Tok} (h:0≤ar t):(Option.bind ((if t.1==4 then (some (t.1==4)) else (some (t.1==5)):Option Bool)) (fun s3=>if s3 then (some 2) else (Option.bind ((if t.1==6 then (some (t.1==6)) else (some (t.1==7)):Option Bool)) (fun s4=>if s4 then (some 1) else (some 0)))):Option Int)=some (ar t):=by
 rcases nG h with ⟨e,k | k⟩ | ⟨e,k | k⟩ | ⟨e,k | k | k⟩ <;> rw[e] <;> simp[k]
theorem Uu (t:Tok): ∃n:Int,(Option.bind ((if t.1==4 then (some (t.1==4)) else (some (t.1==5)):Option Bool)) (fun s3=>if s3 then (some 2) else (Option.bind ((if t.1==6 then (some (t.1==6)) else (some (t.1==7)):Option Bool)) (fun s4=>if s4 then (some 1) else (some 0)))):Option Int)=some n:=by
 by_cases h4:t.1=4
 ·exact ⟨2,by simp[h4]⟩
 by_cases h5:t.1=5
 ·exact ⟨2,by simp[h5]⟩
 by_cases h6:t.1=6
 ·exact ⟨1,by simp[h6]⟩
 by_cases h7:t.1=7
 ·exact ⟨1,by simp[h7]⟩
 exact ⟨0,by simp[h4,h5,h6,h7]⟩
def xW (e:List Tok):Tr Tok:=match run [] e with
 | some [x] =>x
 | _=>.nil
theorem DG {e:List Tok} (he:e.length≤1048576):mP e=some (xW e):=by
 obtain ⟨o,eo,hq⟩:=cm (f:=p8 e) (fun i s=> ∃st,s=(st,(i:Int))∧run [] (e.take i)=some st) (fun o=>(o= .ret Tr.nil∧run [] e=none)∨ ∃st,o= .brk (st,(e.length:Int))∧run [] e=some st) e.length (s:=([],0)) (by
  rintro i s hi ⟨st,rfl,hst⟩
  have hl:=N4 hst
  simp only[List.length_nil,List.length_take] at hl
  unfold p8
  simp only[db]
  by_cases c:i<e.length
  ·rw[if_pos (by simp;omega),ak (by omega) (by omega)];simp only[Option.bind_some]
   have hr:=vA (nth e (i:Int))
   by_cases c1:ar (nth e (i:Int))<0
   ·obtain ⟨n,hn⟩:=Uu (nth e (i:Int))
    rw[hn];simp only[Option.bind_some]
    rw[Wg];simp only[Option.bind_some]
    refine .inr ⟨_,by rw[if_neg (by simp;omega)],(fun s' e=>by cases e),.inl ⟨rfl,yo c hst ?_⟩⟩
    rw[stp,if_pos (.inl c1)]
   ·rw[XO (by omega)];simp only[Option.bind_some]
    rw[Wg];simp only[Option.bind_some]
    rw[if_pos (by simp;omega),cB (n:=(st.length:Int) - ar (nth e (i:Int))) (by omega) (by omega)]
    by_cases c2:ar (nth e (i:Int))>(st.length:Int)
    ·refine .inr ⟨_,by rw[if_pos (by simp;omega)],(fun s' e=>by cases e),.inl ⟨rfl,yo c hst ?_⟩⟩
     rw[stp,if_pos (.inr c2)]
    ·rw[if_neg (by simp;omega),show∀p:Prop,∀ [Decidable p],p→chk p=some () from fun p _ hp=>by unfold chk;rw[if_pos hp]]
     ·simp only[Option.bind_some]
      have e1:((st.length:Int) - ar (nth e (i:Int))).toNat=st.length - (ar (nth e (i:Int))).toNat:=by omega
      rw[e1,au (by simp;omega)];simp only[Option.bind_some]
      rw[au (by simp;omega)];simp only[Option.bind_some,List.nil_append,aa (show i<9223372036854775807 by omega)]
      refine .inl ⟨c,_,rfl,_,rfl,?_⟩
      rw[AB c,vB,hst]
      show stp st _=_
      rw[stp,if_neg (by omega)]
     ·omega
  ·obtain rfl:i=e.length:=by omega
   rw[List.take_of_length_le (by omega)] at hst
   exact .inr ⟨_,by rw[if_neg (by simp)],(fun s' e=>by cases e),.inr ⟨st,rfl,hst⟩⟩) ⟨[],rfl,rfl⟩ (mb (by omega))
 unfold mP
 rcases hq with ⟨rfl,h⟩ | ⟨st,rfl,h⟩
 ·rw[aT eo];unfold xW;rw[h]
 ·rw[af eo];unfold xW;rw[h]
  match st with
  | [] =>rfl
  | [x] =>rfl
  | _::_::_ =>
   simp only
   rw[if_pos (by simp;omega)]
theorem wR {x:Tr Tok} (h:WT x):xW (flat x)=x:=by unfold xW;rw[QY h];rfl
theorem Q0 {e:List Tok} (he:e.length≤1048576):ss e=some (isX e):=by
 unfold ss
 rw[DG he];simp only[Option.bind_some]
 congr 1
 by_cases h:isX e=true
 ·rw[h]
  obtain ⟨x,h1,h2,h3⟩:=N3 h
  have:xW e=x:=by unfold xW;rw[h1]
  rw[this]
  cases h2 with
  | node _ _=>rfl
 ·have:xW e= .nil:=by
   unfold xW
   unfold isX at h
   split
   ·rename_i x hx;rw[hx] at h;exact absurd rfl h
   ·rfl
  rw[this,Bool.eq_false_iff.2 h];rfl
theorem H6 {e:List Tok} (he:e.length≤1048576):jU e=some (decide (e.length≤24)&&isX e):=by
 unfold jU
 rw[QZ he]
 by_cases c:e.length≤24
 ·rw[if_pos (by simp;omega)];simp[c]
 ·rw[if_neg (by simp;omega)];simp[c]
theorem H7 {e:List Tok} (he:e.length≤1048576):jY e=some (decide (e.length≤24)&&isX e):=by
 unfold jY
 rw[Q0 he]
 by_cases c:e.length≤24
 ·rw[if_pos (by simp;omega)];simp[c]
 ·rw[if_neg (by simp;omega)];simp[c]
theorem mj {p:Prop} [Decidable p] (h:p):chk p=some ():=by unfold chk;rw[if_pos h]
theorem Uv {A:List Tok} {x:Tr Tok} (hx:WT x) (hl:(A++flat x).length≤1000000):gr (A++flat x)=some (A.length:Int):=by
 obtain ⟨s',e,ks,q1,q2,q3⟩: ∃s',ai (k8 (A++flat x)) aC (1,((A++flat x).length:Int))=some (.brk s')∧ ∃ks:List (Tr Tok),ks= [] ∧s'.2=(A.length:Int)∧True:=by
  obtain ⟨o,eo,hq⟩:=cm (f:=k8 (A++flat x)) (fun i s=> ∃ks:List (Tr Tok),(∀k,k∈ks→WT k)∧s=((ks.length:Int),(((A++jj ks).length:Nat):Int))∧i+(jj ks).length=(flat x).length∧(A++flat x).take (A++jj ks).length=A++jj ks) (fun o=> ∃s',o= .brk s'∧s'.2=(A.length:Int)) (flat x).length (s:=(1,((A++flat x).length:Int))) (by
   rintro i s hi ⟨ks,hw,rfl,hlen,htk⟩
   unfold k8
   simp only[db]
   rcases List.eq_nil_or_concat ks with rfl | ⟨ks',y,rfl⟩
   ·refine .inr ⟨_,by rw[if_neg (by simp)],(fun s' e=>by cases e),_,rfl,?_⟩
    simp[jj]
   ·have hy:=hw y (by simp)
    cases hy with
    | @node t cs h1 h2 =>
     have hfl:jj (ks'++ [.node t cs])=jj (ks'++cs)++ [t]:=by rw[pz,lU,flat,pz,List.append_assoc]
     rw[List.concat_eq_append,hfl] at hlen htk⊢
     simp only[List.length_append,List.length_cons,List.length_nil] at hlen htk hl⊢
     rw[if_pos (by simp <;> omega)]
     have hpos:IntKind.i64.wrap (((A.length+((jj (ks'++cs)).length+1):Nat):Int) - 1)=((A.length+(jj (ks'++cs)).length:Nat):Int):=by
      rw[cB (by omega) (by omega)];omega
     have hget:nth (A++flat x) ((A.length+(jj (ks'++cs)).length:Nat):Int)=t:=by
      have hlt:A.length+(jj (ks'++cs)).length<(A++flat x).length:=by rw[List.length_append];omega
      have e1:=congrArg (fun l:List Tok=>l[A.length+(jj (ks'++cs)).length]?) htk
      rw[List.getElem?_take_of_lt (by omega),List.getElem?_eq_getElem hlt,←List.append_assoc,List.getElem?_append_right (by rw[List.length_append];omega),List.length_append] at e1
      rw[bY hlt]
      simpa using e1
     rw[hpos,ak (by omega) (by simp only[List.length_append];omega),hget];simp only[Option.bind_some]
     rw[YL,h1];simp only[Option.bind_some]
     have hcl:(cs.length:Int)≤2:=by rw[←h1];exact (vA t).2
     have hkl:ks'.length≤(jj (ks'++cs)).length+1000000:=by
      have: ∀l:List (Tr Tok),(∀k,k∈l→WT k)→l.length≤(jj l).length:=by
       intro l
       induction l with
       | nil=>intro _;simp
       | cons k l ih =>
        intro h
        have h1:=(h k (by simp)).pos
        have h2:=ih fun k hk=>h k (by simp[hk])
        rw[jj];simp only[List.length_cons,List.length_append];omega
      have:=this ks' fun k hk=>hw k (by simp[hk])
      rw[pz,List.length_append];omega
     refine .inl ⟨by omega,_,rfl,ks'++cs,fun k hk=>?_,?_,by omega,?_⟩
     ·rcases List.mem_append.1 hk with hk | hk
      ·exact hw k (by simp[hk])
      ·exact h2 k hk
     ·rw[cB (n:=((ks'.length+1:Nat):Int) - 1) (by omega) (by omega),cB (by omega) (by omega)]
      congr 1
      (simp only[List.length_append]) <;> omega
     ·have e1:=congrArg (List.take (A++jj (ks'++cs)).length) htk
      rw[List.take_take,Nat.min_eq_left (by rw[List.length_append];omega),←List.append_assoc,List.take_left] at e1
      rw[List.length_append] at e1
      exact e1) ⟨[x],fun k hk=>by (obtain rfl:=List.mem_singleton.1 hk;exact hx),by rw[lU];rfl,by rw[lU];omega,by rw[lU,List.take_length]⟩ (mb (by rw[List.length_append] at hl;omega))
  obtain ⟨s',rfl,h2⟩:=hq
  exact ⟨s',eo,[],rfl,h2,trivial⟩
 unfold gr
 rw[af e,q2]
end D
end Go.Proofs.YtakjhbbbjbebdaaGreat
