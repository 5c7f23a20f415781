/- FnExactDrainMessages: for every input the law returns true and changes nothing that was there. Part 6 of 8. -/
import Derived.Test.YtakjhbbbjbebdaaGreatBC4
set_option linter.unusedVariables false
set_option linter.unusedSimpArgs false
set_option linter.unnecessarySimpa false
set_option linter.unusedSectionVars false
set_option maxRecDepth 1000000
namespace Go.Proofs.YtakjhbbbjbebdaaGreat
namespace R
open Go.RowKit
open D
abbrev y3:Ty:=.int .i64
abbrev xo:Ty:=.prod y3 (.prod y3 (.prod y3 y3))
abbrev t263:Ty:=.tree 294 263 xo
abbrev sP:Ty:=.prod y3 y3
abbrev y4:Ty:=.bool
abbrev y89:Ty:=.sl 4 y4
abbrev y26:Ty:=.sl 3 y3
abbrev y90:Ty:=.sl 26 y26
abbrev XP:Ty:=.prod y3 (.prod y89 y90)
abbrev Yl:Ty:=.prod y3 (.prod y3 (.prod y3 y3))
abbrev XQ:Ty:=.sl 232 Yl
abbrev XR:Ty:=.wr XQ
abbrev XS:Ty:=.prod y3 (.prod XR y3)
abbrev Ld:Ty:=.sl 188 xo
abbrev sQ:Ty:=.wr Ld
abbrev FK:Ty:=.prod y3 (.prod sQ y3)
abbrev L6:Ty:=.prod y3 (.prod y3 (.prod y3 y3))
abbrev Ym:Ty:=.prod y3 (.prod y3 (.prod y3 y3))
abbrev U7:Ty:=.prod y3 y4
abbrev WQ:Ty:=.prod U7 (.prod y3 y3)
abbrev Ze:Ty:=.sl 205 WQ
abbrev y22:Ty:=.sl 133 XP
abbrev JO:Ty:=.prod y26 (.prod y3 (.prod y3 (.prod y26 y4)))
abbrev Zf:Ty:=.sl 203 U7
abbrev y23:Ty:=.sl 139 XS
abbrev Zg:Ty:=.prod U7 (.prod y3 y3)
abbrev Yn:Ty:=.sl 240 Zg
abbrev Zh:Ty:=.sl 238 Yn
abbrev WR:Ty:=.int .u64
abbrev y25:Ty:=.prod y22 y23
abbrev Zi:Ty:=.prod y4 (.prod y3 y3)
abbrev Zj:Ty:=.prod y3 (.prod y3 y4)
abbrev Yo:Ty:=.fro t263
abbrev y27:Ty:=.sl 156 Ym
abbrev WS:Ty:=.int .u32
abbrev WU:Ty:=.int .u64
abbrev y29:Ty:=.prod y26 y27
abbrev XT:Ty:=.sl 263 Yo
abbrev Zz:Ty:=.prod xo XT
abbrev y32:Ty:=.sl 103 sP
abbrev y92:Ty:=.prod y3 (.prod y89 y90)
abbrev y35:Ty:=.sl 92 y92
abbrev y36:Ty:=.sl 146 FK
abbrev y38:Ty:=.prod y35 y36
abbrev y40:Ty:=.sl 150 L6
abbrev y42:Ty:=.prod y26 y40
abbrev y51:Ty:=.sl 29 y29
abbrev y53:Ty:=.prod y3 y51
abbrev y55:Ty:=.prod y3 (.prod y3 y3)
abbrev y58:Ty:=.prod y32 y32
abbrev y60:Ty:=.prod y3 (.prod y4 y58)
abbrev y61:Ty:=.prod y3 (.prod y3 y3)
abbrev y64:Ty:=.sl 42 y42
abbrev y66:Ty:=.prod y3 y64
abbrev y78:Ty:=.sl 60 y60
theorem ti3:TI Tryz.prog 3 false 1:=⟨⟨_,Tryz.underlying3,rfl⟩,by kernel_rfl⟩
theorem WV (a0:Int) (a1:Int) (b0:Int) (b1:Int) (w:World):EqT Tryz.prog 103 (.agg #[.int .i64 a0,.int .i64 a1]) (.agg #[.int .i64 b0,.int .i64 b1]) ((a0==b0)&&((a1==b1)&&true)) w:=Sl w Tryz.underlying103 (by kernel_rfl) (by kernel_rfl) (sn rfl (qw ti3 rfl) (qw ti3 rfl) (run_equalIn_int w 9998 3 _ _ _ _ Tryz.underlying3) (sn rfl (qw ti3 rfl) (qw ti3 rfl) (run_equalIn_int w 9998 3 _ _ _ _ Tryz.underlying3) (Ml w)))
theorem WW (a0:Int) (a1:Int) (a2:Int) (a3:Int) (b0:Int) (b1:Int) (b2:Int) (b3:Int) (w:World):EqT Tryz.prog 188 (.agg #[.int .i64 a0,.int .i64 a1,.int .i64 a2,.int .i64 a3]) (.agg #[.int .i64 b0,.int .i64 b1,.int .i64 b2,.int .i64 b3]) ((a0==b0)&&((a1==b1)&&((a2==b2)&&((a3==b3)&&true)))) w:=Sl w Tryz.underlying188 (by kernel_rfl) (by kernel_rfl) (sn rfl (qw ti3 rfl) (qw ti3 rfl) (run_equalIn_int w 9998 3 _ _ _ _ Tryz.underlying3) (sn rfl (qw ti3 rfl) (qw ti3 rfl) (run_equalIn_int w 9998 3 _ _ _ _ Tryz.underlying3) (sn rfl (qw ti3 rfl) (qw ti3 rfl) (run_equalIn_int w 9998 3 _ _ _ _ Tryz.underlying3) (sn rfl (qw ti3 rfl) (qw ti3 rfl) (run_equalIn_int w 9998 3 _ _ _ _ Tryz.underlying3) (Ml w)))))
theorem mz3 (w:World):(zeroValue 3).run Tryz.prog w= .ok (.int .i64 0) w:=by kernel_rfl
theorem kk3:KeyOk Tryz.prog 3 (fun n:Int=>Value.int .i64 n) T2 iOk:=Wb Tryz.underlying3
theorem ek3:EltOk Tryz.prog 3 (fun n:Int=>Value.int .i64 n) T2 iOk 0:=Wc Tryz.underlying3 mz3
def tt:TT:=[(3,⟨false,1,none,y3,[],some 8,none,false,none,none,some (some .i64),false,none⟩),
 (4,⟨false,1,none,y4,[],some 1,none,true,none,none,none,false,none⟩),
 (22,⟨false,1,some 133,y22,[],some 24,none,false,none,none,none,false,none⟩),
 (23,⟨false,1,some 139,y23,[],some 24,none,false,none,none,none,false,none⟩),
 (25,⟨true,2,none,y25,[(0,0),(1,0)],some 48,some [(0,1),(1,1)],false,none,none,none,false,none⟩),
 (26,⟨false,1,some 3,y26,[],some 24,none,false,none,none,none,false,none⟩),
 (27,⟨false,1,some 156,y27,[],some 24,none,false,none,none,none,false,none⟩),
 (29,⟨true,2,none,y29,[(0,0),(1,0)],some 48,some [(0,1),(1,1)],false,none,none,none,false,none⟩),
 (32,⟨false,1,some 103,y32,[],some 24,none,false,none,none,none,false,none⟩),
 (35,⟨false,1,some 92,y35,[],some 24,none,false,none,none,none,false,none⟩),
 (36,⟨false,1,some 146,y36,[],some 24,none,false,none,none,none,false,none⟩),
 (38,⟨true,2,none,y38,[(0,0),(1,0)],some 48,some [(0,1),(1,1)],false,none,none,none,false,none⟩),
 (40,⟨false,1,some 150,y40,[],some 24,none,false,none,none,none,false,none⟩),
 (42,⟨true,2,none,y42,[(0,0),(1,0)],some 48,some [(0,1),(1,1)],false,none,none,none,false,none⟩),
 (51,⟨false,1,some 29,y51,[],some 24,none,false,none,none,none,false,none⟩),
 (53,⟨true,2,none,y53,[(0,0),(1,0)],some 32,some [(0,1),(1,1)],false,none,none,none,false,none⟩),
 (55,⟨true,3,none,y55,[(0,0),(1,0),(2,0)],some 24,some [(0,1),(1,1),(2,1)],false,none,none,none,false,none⟩),
 (58,⟨true,2,none,y58,[(0,0),(1,0)],some 48,some [(0,1),(1,1)],false,none,none,none,false,none⟩),
 (60,⟨true,4,none,y60,[(0,0),(1,0),(2,1)],some 64,some [(0,1),(1,1),(2,2)],false,none,none,none,false,none⟩),
 (61,⟨true,3,none,y61,[(0,0),(1,0),(2,0)],some 24,some [(0,1),(1,1),(2,1)],false,none,none,none,false,none⟩),
 (64,⟨false,1,some 42,y64,[],some 24,none,false,none,none,none,false,none⟩),
 (66,⟨true,2,none,y66,[(0,0),(1,0)],some 32,some [(0,1),(1,1)],false,none,none,none,false,none⟩),
 (78,⟨false,1,some 60,y78,[],some 24,none,false,none,none,none,false,none⟩),
 (89,⟨false,1,some 4,y89,[],some 24,none,false,none,none,none,false,none⟩),
 (90,⟨false,1,some 26,y90,[],some 24,none,false,none,none,none,false,none⟩),
 (92,⟨true,3,none,y92,[(0,0),(1,0),(2,0)],some 56,some [(0,1),(1,1),(2,1)],false,none,none,none,false,none⟩),
 (103,⟨true,2,none,sP,[(0,0),(1,0)],some 16,some [(0,1),(1,1)],false,some [some .i64,some .i64],none,none,false,none⟩),
 (106,⟨false,1,none,.bool,[],none,none,false,none,none,none,true,none⟩),
 (133,⟨true,3,none,XP,[(0,0),(1,0),(2,0)],some 56,some [(0,1),(1,1),(2,1)],false,none,none,none,false,none⟩),
 (135,⟨false,1,some 232,XQ,[],some 24,none,false,none,none,none,false,none⟩),
 (137,⟨true,1,none,XR,[(0,0)],some 24,some [(0,1)],false,none,none,none,false,none⟩),
 (139,⟨true,3,none,XS,[(0,0),(1,0),(2,0)],some 40,some [(0,1),(1,1),(2,1)],false,none,none,none,false,none⟩),
 (142,⟨false,1,some 188,Ld,[],some 24,none,false,none,none,none,false,none⟩),
 (144,⟨true,1,none,sQ,[(0,0)],some 24,some [(0,1)],false,none,none,none,false,none⟩),
 (146,⟨true,3,none,FK,[(0,0),(1,0),(2,0)],some 40,some [(0,1),(1,1),(2,1)],false,none,none,none,false,none⟩),
 (150,⟨true,4,none,L6,[(0,0),(1,0),(2,0),(3,0)],some 32,some [(0,1),(1,1),(2,1),(3,1)],false,none,none,none,false,none⟩),
 (156,⟨true,4,none,Ym,[(0,0),(1,0),(2,0),(3,0)],some 32,some [(0,1),(1,1),(2,1),(3,1)],false,none,none,none,false,none⟩),
 (159,⟨false,1,none,.bool,[],none,none,false,none,none,none,true,none⟩),
 (160,⟨false,1,none,.bool,[],none,none,false,none,none,none,true,none⟩),
 (176,⟨false,1,none,.bool,[],none,none,false,none,none,none,true,none⟩),
 (182,⟨false,1,none,.bool,[],none,none,false,none,none,none,true,none⟩),
 (188,⟨true,4,none,xo,[(0,0),(1,0),(2,0),(3,0)],some 32,some [(0,1),(1,1),(2,1),(3,1)],false,some [some .i64,some .i64,some .i64,some .i64],none,none,false,none⟩),
 (195,⟨false,1,none,.bool,[],none,none,false,none,none,none,true,none⟩),
 (200,⟨false,1,some 205,Ze,[],some 24,none,false,none,none,none,false,none⟩),
 (203,⟨true,2,none,U7,[(0,0),(1,0)],some 16,some [(0,1),(1,1)],false,none,none,none,false,none⟩),
 (205,⟨true,4,none,WQ,[(0,1),(2,0),(3,0)],some 32,some [(0,2),(2,1),(3,1)],false,none,none,none,false,none⟩),
 (218,⟨false,1,none,.bool,[],none,none,false,none,none,none,true,none⟩),
 (224,⟨true,5,none,JO,[(0,0),(1,0),(2,0),(3,0),(4,0)],some 72,some [(0,1),(1,1),(2,1),(3,1),(4,1)],false,none,none,none,false,none⟩),
 (228,⟨false,1,some 203,Zf,[],some 24,none,false,none,none,none,false,none⟩),
 (232,⟨true,4,none,Yl,[(0,0),(1,0),(2,0),(3,0)],some 32,some [(0,1),(1,1),(2,1),(3,1)],false,none,none,none,false,none⟩),
 (236,⟨false,1,some 238,Zh,[],some 24,none,false,none,none,none,false,none⟩),
 (238,⟨false,1,some 240,Yn,[],some 24,none,false,none,none,none,false,none⟩),
 (240,⟨true,4,none,Zg,[(0,1),(2,0),(3,0)],some 32,some [(0,2),(2,1),(3,1)],false,none,none,none,false,none⟩),
 (244,⟨false,1,none,WR,[],some 8,none,false,none,none,some (some .u64),false,none⟩),
 (252,⟨true,3,none,Zi,[(0,0),(1,0),(2,0)],some 24,some [(0,1),(1,1),(2,1)],false,none,none,none,false,none⟩),
 (261,⟨true,3,none,Zj,[(0,0),(1,0),(2,0)],some 24,some [(0,1),(1,1),(2,1)],false,none,none,none,false,none⟩),
 (263,⟨false,1,none,Yo,[],some 8,none,false,none,none,none,false,some 294⟩),
 (266,⟨false,1,none,.bool,[],none,none,false,none,none,none,true,none⟩),
 (267,⟨false,1,none,.bool,[],none,none,false,none,none,none,true,none⟩),
 (281,⟨false,1,none,WS,[],some 4,none,false,none,none,some (some .u32),false,none⟩),
 (283,⟨false,1,none,WU,[],some 8,none,false,none,none,some (some .u64),false,none⟩),
 (292,⟨false,1,some 263,XT,[],some 24,none,false,none,none,none,false,none⟩),
 (294,⟨true,5,none,Zz,[(0,3),(4,0)],some 56,some [(0,4),(4,1)],false,none,none,none,false,none⟩),
 (298,⟨false,1,none,.bool,[],none,none,false,none,some ⟨3,3,.int,.int⟩,none,false,none⟩),
 (300,⟨false,1,none,.bool,[],none,none,false,none,none,none,true,none⟩),
 (333,⟨false,1,none,.bool,[],none,none,false,none,none,none,true,none⟩)]
theorem al:TTok Tryz.prog tt:=⟨zC (n:=1) (z:=.int .i64 0) ⟨⟨_,Tryz.underlying3,rfl⟩,by kernel_rfl⟩ rfl (by unfold TZ;kernel_rfl) rfl (Nat.le_of_ble_eq_true rfl) (fun h=>by cases h) (fun k h=>by obtain rfl:=Option.some.inj h;exact Tryz.underlying3),
 zC (n:=1) (z:=.bool false) ⟨⟨_,Tryz.underlying4,rfl⟩,by kernel_rfl⟩ rfl (by unfold TZ;kernel_rfl) rfl (Nat.le_of_ble_eq_true rfl) (fun h=>Tryz.underlying4) (fun k h=>by cases h),
 o6 ⟨⟨_,Tryz.underlying22,rfl⟩,by kernel_rfl⟩ Tryz.underlying22 (by unfold TZ;kernel_rfl),
 o6 ⟨⟨_,Tryz.underlying23,rfl⟩,by kernel_rfl⟩ Tryz.underlying23 (by unfold TZ;kernel_rfl),
 kG (z:=.agg #[.slice none 0 0,.slice none 0 0]) ⟨⟨_,Tryz.underlying25,rfl⟩,by kernel_rfl⟩ rfl ⟨⟨_,_,Tryz.underlying25,rfl,rfl,by kernel_rfl⟩,⟨_,_,Tryz.underlying25,rfl,rfl,by kernel_rfl⟩,trivial⟩ (by unfold TZ;kernel_rfl) rfl (Nat.le_of_ble_eq_true rfl) ⟨_,Tryz.underlying25,by kernel_rfl⟩ (fun ks h=>by cases h),
 o6 ⟨⟨_,Tryz.underlying26,rfl⟩,by kernel_rfl⟩ Tryz.underlying26 (by unfold TZ;kernel_rfl),
 o6 ⟨⟨_,Tryz.underlying27,rfl⟩,by kernel_rfl⟩ Tryz.underlying27 (by unfold TZ;kernel_rfl),
 kG (z:=.agg #[.slice none 0 0,.slice none 0 0]) ⟨⟨_,Tryz.underlying29,rfl⟩,by kernel_rfl⟩ rfl ⟨⟨_,_,Tryz.underlying29,rfl,rfl,by kernel_rfl⟩,⟨_,_,Tryz.underlying29,rfl,rfl,by kernel_rfl⟩,trivial⟩ (by unfold TZ;kernel_rfl) rfl (Nat.le_of_ble_eq_true rfl) ⟨_,Tryz.underlying29,by kernel_rfl⟩ (fun ks h=>by cases h),
 o6 ⟨⟨_,Tryz.underlying32,rfl⟩,by kernel_rfl⟩ Tryz.underlying32 (by unfold TZ;kernel_rfl),
 o6 ⟨⟨_,Tryz.underlying35,rfl⟩,by kernel_rfl⟩ Tryz.underlying35 (by unfold TZ;kernel_rfl),
 o6 ⟨⟨_,Tryz.underlying36,rfl⟩,by kernel_rfl⟩ Tryz.underlying36 (by unfold TZ;kernel_rfl),
 kG (z:=.agg #[.slice none 0 0,.slice none 0 0]) ⟨⟨_,Tryz.underlying38,rfl⟩,by kernel_rfl⟩ rfl ⟨⟨_,_,Tryz.underlying38,rfl,rfl,by kernel_rfl⟩,⟨_,_,Tryz.underlying38,rfl,rfl,by kernel_rfl⟩,trivial⟩ (by unfold TZ;kernel_rfl) rfl (Nat.le_of_ble_eq_true rfl) ⟨_,Tryz.underlying38,by kernel_rfl⟩ (fun ks h=>by cases h),
 o6 ⟨⟨_,Tryz.underlying40,rfl⟩,by kernel_rfl⟩ Tryz.underlying40 (by unfold TZ;kernel_rfl),
 kG (z:=.agg #[.slice none 0 0,.slice none 0 0]) ⟨⟨_,Tryz.underlying42,rfl⟩,by kernel_rfl⟩ rfl ⟨⟨_,_,Tryz.underlying42,rfl,rfl,by kernel_rfl⟩,⟨_,_,Tryz.underlying42,rfl,rfl,by kernel_rfl⟩,trivial⟩ (by unfold TZ;kernel_rfl) rfl (Nat.le_of_ble_eq_true rfl) ⟨_,Tryz.underlying42,by kernel_rfl⟩ (fun ks h=>by cases h),
 o6 ⟨⟨_,Tryz.underlying51,rfl⟩,by kernel_rfl⟩ Tryz.underlying51 (by unfold TZ;kernel_rfl),
 kG (z:=.agg #[.int .i64 0,.slice none 0 0]) ⟨⟨_,Tryz.underlying53,rfl⟩,by kernel_rfl⟩ rfl ⟨⟨_,_,Tryz.underlying53,rfl,rfl,by kernel_rfl⟩,⟨_,_,Tryz.underlying53,rfl,rfl,by kernel_rfl⟩,trivial⟩ (by unfold TZ;kernel_rfl) rfl (Nat.le_of_ble_eq_true rfl) ⟨_,Tryz.underlying53,by kernel_rfl⟩ (fun ks h=>by cases h),
 kG (z:=.agg #[.int .i64 0,.int .i64 0,.int .i64 0]) ⟨⟨_,Tryz.underlying55,rfl⟩,by kernel_rfl⟩ rfl ⟨⟨_,_,Tryz.underlying55,rfl,rfl,by kernel_rfl⟩,⟨_,_,Tryz.underlying55,rfl,rfl,by kernel_rfl⟩,⟨_,_,Tryz.underlying55,rfl,rfl,by kernel_rfl⟩,trivial⟩ (by unfold TZ;kernel_rfl) rfl (Nat.le_of_ble_eq_true rfl) ⟨_,Tryz.underlying55,by kernel_rfl⟩ (fun ks h=>by cases h),
 kG (z:=.agg #[.slice none 0 0,.slice none 0 0]) ⟨⟨_,Tryz.underlying58,rfl⟩,by kernel_rfl⟩ rfl ⟨⟨_,_,Tryz.underlying58,rfl,rfl,by kernel_rfl⟩,⟨_,_,Tryz.underlying58,rfl,rfl,by kernel_rfl⟩,trivial⟩ (by unfold TZ;kernel_rfl) rfl (Nat.le_of_ble_eq_true rfl) ⟨_,Tryz.underlying58,by kernel_rfl⟩ (fun ks h=>by cases h),
 kG (z:=.agg #[.int .i64 0,.bool false,.slice none 0 0,.slice none 0 0]) ⟨⟨_,Tryz.underlying60,rfl⟩,by kernel_rfl⟩ rfl ⟨⟨_,_,Tryz.underlying60,rfl,rfl,by kernel_rfl⟩,⟨_,_,Tryz.underlying60,rfl,rfl,by kernel_rfl⟩,⟨_,_,Tryz.underlying60,rfl,rfl,by kernel_rfl⟩,trivial⟩ (by unfold TZ;kernel_rfl) rfl (Nat.le_of_ble_eq_true rfl) ⟨_,Tryz.underlying60,by kernel_rfl⟩ (fun ks h=>by cases h),
 kG (z:=.agg #[.int .i64 0,.int .i64 0,.int .i64 0]) ⟨⟨_,Tryz.underlying61,rfl⟩,by kernel_rfl⟩ rfl ⟨⟨_,_,Tryz.underlying61,rfl,rfl,by kernel_rfl⟩,⟨_,_,Tryz.underlying61,rfl,rfl,by kernel_rfl⟩,⟨_,_,Tryz.underlying61,rfl,rfl,by kernel_rfl⟩,trivial⟩ (by unfold TZ;kernel_rfl) rfl (Nat.le_of_ble_eq_true rfl) ⟨_,Tryz.underlying61,by kernel_rfl⟩ (fun ks h=>by cases h),
 o6 ⟨⟨_,Tryz.underlying64,rfl⟩,by kernel_rfl⟩ Tryz.underlying64 (by unfold TZ;kernel_rfl),
 kG (z:=.agg #[.int .i64 0,.slice none 0 0]) ⟨⟨_,Tryz.underlying66,rfl⟩,by kernel_rfl⟩ rfl ⟨⟨_,_,Tryz.underlying66,rfl,rfl,by kernel_rfl⟩,⟨_,_,Tryz.underlying66,rfl,rfl,by kernel_rfl⟩,trivial⟩ (by unfold TZ;kernel_rfl) rfl (Nat.le_of_ble_eq_true rfl) ⟨_,Tryz.underlying66,by kernel_rfl⟩ (fun ks h=>by cases h),
 o6 ⟨⟨_,Tryz.underlying78,rfl⟩,by kernel_rfl⟩ Tryz.underlying78 (by unfold TZ;kernel_rfl),
 o6 ⟨⟨_,Tryz.underlying89,rfl⟩,by kernel_rfl⟩ Tryz.underlying89 (by unfold TZ;kernel_rfl),
 o6 ⟨⟨_,Tryz.underlying90,rfl⟩,by kernel_rfl⟩ Tryz.underlying90 (by unfold TZ;kernel_rfl),
 kG (z:=.agg #[.int .i64 0,.slice none 0 0,.slice none 0 0]) ⟨⟨_,Tryz.underlying92,rfl⟩,by kernel_rfl⟩ rfl ⟨⟨_,_,Tryz.underlying92,rfl,rfl,by kernel_rfl⟩,⟨_,_,Tryz.underlying92,rfl,rfl,by kernel_rfl⟩,⟨_,_,Tryz.underlying92,rfl,rfl,by kernel_rfl⟩,trivial⟩ (by unfold TZ;kernel_rfl) rfl (Nat.le_of_ble_eq_true rfl) ⟨_,Tryz.underlying92,by kernel_rfl⟩ (fun ks h=>by cases h),
 kG (z:=.agg #[.int .i64 0,.int .i64 0]) ⟨⟨_,Tryz.underlying103,rfl⟩,by kernel_rfl⟩ rfl ⟨⟨_,_,Tryz.underlying103,rfl,rfl,by kernel_rfl⟩,⟨_,_,Tryz.underlying103,rfl,rfl,by kernel_rfl⟩,trivial⟩ (by unfold TZ;kernel_rfl) rfl (Nat.le_of_ble_eq_true rfl) ⟨_,Tryz.underlying103,by kernel_rfl⟩ (fun ks h=>by obtain rfl:=Option.some.inj h;exact fun w a0 b0 a1 b1=>WV a0 a1 b0 b1 w),
 zD (ty:=.bool) (b:=8) ⟨⟨_,Tryz.underlying106,rfl⟩,by kernel_rfl⟩ rfl (by unfold TZ;kernel_rfl),
 kG (z:=.agg #[.int .i64 0,.slice none 0 0,.slice none 0 0]) ⟨⟨_,Tryz.underlying133,rfl⟩,by kernel_rfl⟩ rfl ⟨⟨_,_,Tryz.underlying133,rfl,rfl,by kernel_rfl⟩,⟨_,_,Tryz.underlying133,rfl,rfl,by kernel_rfl⟩,⟨_,_,Tryz.underlying133,rfl,rfl,by kernel_rfl⟩,trivial⟩ (by unfold TZ;kernel_rfl) rfl (Nat.le_of_ble_eq_true rfl) ⟨_,Tryz.underlying133,by kernel_rfl⟩ (fun ks h=>by cases h),
 o6 ⟨⟨_,Tryz.underlying135,rfl⟩,by kernel_rfl⟩ Tryz.underlying135 (by unfold TZ;kernel_rfl),
 kG (z:=.agg #[.slice none 0 0]) ⟨⟨_,Tryz.underlying137,rfl⟩,by kernel_rfl⟩ rfl ⟨⟨_,_,Tryz.underlying137,rfl,rfl,by kernel_rfl⟩,trivial⟩ (by unfold TZ;kernel_rfl) rfl (Nat.le_of_ble_eq_true rfl) ⟨_,Tryz.underlying137,by kernel_rfl⟩ (fun ks h=>by cases h),
 kG (z:=.agg #[.int .i64 0,.slice none 0 0,.int .i64 0]) ⟨⟨_,Tryz.underlying139,rfl⟩,by kernel_rfl⟩ rfl ⟨⟨_,_,Tryz.underlying139,rfl,rfl,by kernel_rfl⟩,⟨_,_,Tryz.underlying139,rfl,rfl,by kernel_rfl⟩,⟨_,_,Tryz.underlying139,rfl,rfl,by kernel_rfl⟩,trivial⟩ (by unfold TZ;kernel_rfl) rfl (Nat.le_of_ble_eq_true rfl) ⟨_,Tryz.underlying139,by kernel_rfl⟩ (fun ks h=>by cases h),
 o6 ⟨⟨_,Tryz.underlying142,rfl⟩,by kernel_rfl⟩ Tryz.underlying142 (by unfold TZ;kernel_rfl),
 kG (z:=.agg #[.slice none 0 0]) ⟨⟨_,Tryz.underlying144,rfl⟩,by kernel_rfl⟩ rfl ⟨⟨_,_,Tryz.underlying144,rfl,rfl,by kernel_rfl⟩,trivial⟩ (by unfold TZ;kernel_rfl) rfl (Nat.le_of_ble_eq_true rfl) ⟨_,Tryz.underlying144,by kernel_rfl⟩ (fun ks h=>by cases h),
 kG (z:=.agg #[.int .i64 0,.slice none 0 0,.int .i64 0]) ⟨⟨_,Tryz.underlying146,rfl⟩,by kernel_rfl⟩ rfl ⟨⟨_,_,Tryz.underlying146,rfl,rfl,by kernel_rfl⟩,⟨_,_,Tryz.underlying146,rfl,rfl,by kernel_rfl⟩,⟨_,_,Tryz.underlying146,rfl,rfl,by kernel_rfl⟩,trivial⟩ (by unfold TZ;kernel_rfl) rfl (Nat.le_of_ble_eq_true rfl) ⟨_,Tryz.underlying146,by kernel_rfl⟩ (fun ks h=>by cases h),
 kG (z:=.agg #[.int .i64 0,.int .i64 0,.int .i64 0,.int .i64 0]) ⟨⟨_,Tryz.underlying150,rfl⟩,by kernel_rfl⟩ rfl ⟨⟨_,_,Tryz.underlying150,rfl,rfl,by kernel_rfl⟩,⟨_,_,Tryz.underlying150,rfl,rfl,by kernel_rfl⟩,⟨_,_,Tryz.underlying150,rfl,rfl,by kernel_rfl⟩,⟨_,_,Tryz.underlying150,rfl,rfl,by kernel_rfl⟩,trivial⟩ (by unfold TZ;kernel_rfl) rfl (Nat.le_of_ble_eq_true rfl) ⟨_,Tryz.underlying150,by kernel_rfl⟩ (fun ks h=>by cases h),
 kG (z:=.agg #[.int .i64 0,.int .i64 0,.int .i64 0,.int .i64 0]) ⟨⟨_,Tryz.underlying156,rfl⟩,by kernel_rfl⟩ rfl ⟨⟨_,_,Tryz.underlying156,rfl,rfl,by kernel_rfl⟩,⟨_,_,Tryz.underlying156,rfl,rfl,by kernel_rfl⟩,⟨_,_,Tryz.underlying156,rfl,rfl,by kernel_rfl⟩,⟨_,_,Tryz.underlying156,rfl,rfl,by kernel_rfl⟩,trivial⟩ (by unfold TZ;kernel_rfl) rfl (Nat.le_of_ble_eq_true rfl) ⟨_,Tryz.underlying156,by kernel_rfl⟩ (fun ks h=>by cases h),
 zD (ty:=.bool) (b:=8) ⟨⟨_,Tryz.underlying159,rfl⟩,by kernel_rfl⟩ rfl (by unfold TZ;kernel_rfl),
 zD (ty:=.bool) (b:=8) ⟨⟨_,Tryz.underlying160,rfl⟩,by kernel_rfl⟩ rfl (by unfold TZ;kernel_rfl),
 zD (ty:=.bool) (b:=8) ⟨⟨_,Tryz.underlying176,rfl⟩,by kernel_rfl⟩ rfl (by unfold TZ;kernel_rfl),
 zD (ty:=.bool) (b:=8) ⟨⟨_,Tryz.underlying182,rfl⟩,by kernel_rfl⟩ rfl (by unfold TZ;kernel_rfl),
 kG (z:=.agg #[.int .i64 0,.int .i64 0,.int .i64 0,.int .i64 0]) ⟨⟨_,Tryz.underlying188,rfl⟩,by kernel_rfl⟩ rfl ⟨⟨_,_,Tryz.underlying188,rfl,rfl,by kernel_rfl⟩,⟨_,_,Tryz.underlying188,rfl,rfl,by kernel_rfl⟩,⟨_,_,Tryz.underlying188,rfl,rfl,by kernel_rfl⟩,⟨_,_,Tryz.underlying188,rfl,rfl,by kernel_rfl⟩,trivial⟩ (by unfold TZ;kernel_rfl) rfl (Nat.le_of_ble_eq_true rfl) ⟨_,Tryz.underlying188,by kernel_rfl⟩ (fun ks h=>by obtain rfl:=Option.some.inj h;exact fun w a0 b0 a1 b1 a2 b2 a3 b3=>WW a0 a1 a2 a3 b0 b1 b2 b3 w),
 zD (ty:=.bool) (b:=8) ⟨⟨_,Tryz.underlying195,rfl⟩,by kernel_rfl⟩ rfl (by unfold TZ;kernel_rfl),
 o6 ⟨⟨_,Tryz.underlying200,rfl⟩,by kernel_rfl⟩ Tryz.underlying200 (by unfold TZ;kernel_rfl),
 kG (z:=.agg #[.int .i64 0,.bool false]) ⟨⟨_,Tryz.underlying203,rfl⟩,by kernel_rfl⟩ rfl ⟨⟨_,_,Tryz.underlying203,rfl,rfl,by kernel_rfl⟩,⟨_,_,Tryz.underlying203,rfl,rfl,by kernel_rfl⟩,trivial⟩ (by unfold TZ;kernel_rfl) rfl (Nat.le_of_ble_eq_true rfl) ⟨_,Tryz.underlying203,by kernel_rfl⟩ (fun ks h=>by cases h),
 kG (z:=.agg #[.int .i64 0,.bool false,.int .i64 0,.int .i64 0]) ⟨⟨_,Tryz.underlying205,rfl⟩,by kernel_rfl⟩ rfl ⟨⟨_,_,Tryz.underlying205,rfl,rfl,by kernel_rfl⟩,⟨_,_,Tryz.underlying205,rfl,rfl,by kernel_rfl⟩,⟨_,_,Tryz.underlying205,rfl,rfl,by kernel_rfl⟩,trivial⟩ (by unfold TZ;kernel_rfl) rfl (Nat.le_of_ble_eq_true rfl) ⟨_,Tryz.underlying205,by kernel_rfl⟩ (fun ks h=>by cases h),
 zD (ty:=.bool) (b:=8) ⟨⟨_,Tryz.underlying218,rfl⟩,by kernel_rfl⟩ rfl (by unfold TZ;kernel_rfl),
 kG (z:=.agg #[.slice none 0 0,.int .i64 0,.int .i64 0,.slice none 0 0,.bool false]) ⟨⟨_,Tryz.underlying224,rfl⟩,by kernel_rfl⟩ rfl ⟨⟨_,_,Tryz.underlying224,rfl,rfl,by kernel_rfl⟩,⟨_,_,Tryz.underlying224,rfl,rfl,by kernel_rfl⟩,⟨_,_,Tryz.underlying224,rfl,rfl,by kernel_rfl⟩,⟨_,_,Tryz.underlying224,rfl,rfl,by kernel_rfl⟩,⟨_,_,Tryz.underlying224,rfl,rfl,by kernel_rfl⟩,trivial⟩ (by unfold TZ;kernel_rfl) rfl (Nat.le_of_ble_eq_true rfl) ⟨_,Tryz.underlying224,by kernel_rfl⟩ (fun ks h=>by cases h),
 o6 ⟨⟨_,Tryz.underlying228,rfl⟩,by kernel_rfl⟩ Tryz.underlying228 (by unfold TZ;kernel_rfl),
 kG (z:=.agg #[.int .i64 0,.int .i64 0,.int .i64 0,.int .i64 0]) ⟨⟨_,Tryz.underlying232,rfl⟩,by kernel_rfl⟩ rfl ⟨⟨_,_,Tryz.underlying232,rfl,rfl,by kernel_rfl⟩,⟨_,_,Tryz.underlying232,rfl,rfl,by kernel_rfl⟩,⟨_,_,Tryz.underlying232,rfl,rfl,by kernel_rfl⟩,⟨_,_,Tryz.underlying232,rfl,rfl,by kernel_rfl⟩,trivial⟩ (by unfold TZ;kernel_rfl) rfl (Nat.le_of_ble_eq_true rfl) ⟨_,Tryz.underlying232,by kernel_rfl⟩ (fun ks h=>by cases h),
 o6 ⟨⟨_,Tryz.underlying236,rfl⟩,by kernel_rfl⟩ Tryz.underlying236 (by unfold TZ;kernel_rfl),
 o6 ⟨⟨_,Tryz.underlying238,rfl⟩,by kernel_rfl⟩ Tryz.underlying238 (by unfold TZ;kernel_rfl),
 kG (z:=.agg #[.int .i64 0,.bool false,.int .i64 0,.int .i64 0]) ⟨⟨_,Tryz.underlying240,rfl⟩,by kernel_rfl⟩ rfl ⟨⟨_,_,Tryz.underlying240,rfl,rfl,by kernel_rfl⟩,⟨_,_,Tryz.underlying240,rfl,rfl,by kernel_rfl⟩,⟨_,_,Tryz.underlying240,rfl,rfl,by kernel_rfl⟩,trivial⟩ (by unfold TZ;kernel_rfl) rfl (Nat.le_of_ble_eq_true rfl) ⟨_,Tryz.underlying240,by kernel_rfl⟩ (fun ks h=>by cases h),
 zC (n:=1) (z:=.int .u64 0) ⟨⟨_,Tryz.underlying244,rfl⟩,by kernel_rfl⟩ rfl (by unfold TZ;kernel_rfl) rfl (Nat.le_of_ble_eq_true rfl) (fun h=>by cases h) (fun k h=>by obtain rfl:=Option.some.inj h;exact Tryz.underlying244),
 kG (z:=.agg #[.bool false,.int .i64 0,.int .i64 0]) ⟨⟨_,Tryz.underlying252,rfl⟩,by kernel_rfl⟩ rfl ⟨⟨_,_,Tryz.underlying252,rfl,rfl,by kernel_rfl⟩,⟨_,_,Tryz.underlying252,rfl,rfl,by kernel_rfl⟩,⟨_,_,Tryz.underlying252,rfl,rfl,by kernel_rfl⟩,trivial⟩ (by unfold TZ;kernel_rfl) rfl (Nat.le_of_ble_eq_true rfl) ⟨_,Tryz.underlying252,by kernel_rfl⟩ (fun ks h=>by cases h),
 kG (z:=.agg #[.int .i64 0,.int .i64 0,.bool false]) ⟨⟨_,Tryz.underlying261,rfl⟩,by kernel_rfl⟩ rfl ⟨⟨_,_,Tryz.underlying261,rfl,rfl,by kernel_rfl⟩,⟨_,_,Tryz.underlying261,rfl,rfl,by kernel_rfl⟩,⟨_,_,Tryz.underlying261,rfl,rfl,by kernel_rfl⟩,trivial⟩ (by unfold TZ;kernel_rfl) rfl (Nat.le_of_ble_eq_true rfl) ⟨_,Tryz.underlying261,by kernel_rfl⟩ (fun ks h=>by cases h),
 Yk (e:=294) (E:=263) (u:=xo) ⟨⟨_,Tryz.underlying263,rfl⟩,by kernel_rfl⟩ Tryz.underlying263 (by unfold TZ;kernel_rfl),
 zD (ty:=.bool) (b:=8) ⟨⟨_,Tryz.underlying266,rfl⟩,by kernel_rfl⟩ rfl (by unfold TZ;kernel_rfl),
 zD (ty:=.bool) (b:=8) ⟨⟨_,Tryz.underlying267,rfl⟩,by kernel_rfl⟩ rfl (by unfold TZ;kernel_rfl),
 zC (n:=1) (z:=.int .u32 0) ⟨⟨_,Tryz.underlying281,rfl⟩,by kernel_rfl⟩ rfl (by unfold TZ;kernel_rfl) rfl (Nat.le_of_ble_eq_true rfl) (fun h=>by cases h) (fun k h=>by obtain rfl:=Option.some.inj h;exact Tryz.underlying281),
 zC (n:=1) (z:=.int .u64 0) ⟨⟨_,Tryz.underlying283,rfl⟩,by kernel_rfl⟩ rfl (by unfold TZ;kernel_rfl) rfl (Nat.le_of_ble_eq_true rfl) (fun h=>by cases h) (fun k h=>by obtain rfl:=Option.some.inj h;exact Tryz.underlying283),
 o6 ⟨⟨_,Tryz.underlying292,rfl⟩,by kernel_rfl⟩ Tryz.underlying292 (by unfold TZ;kernel_rfl),
 kG (z:=.agg #[.int .i64 0,.int .i64 0,.int .i64 0,.int .i64 0,.slice none 0 0]) ⟨⟨_,Tryz.underlying294,rfl⟩,by kernel_rfl⟩ rfl ⟨⟨_,_,Tryz.underlying294,rfl,rfl,by kernel_rfl⟩,⟨_,_,Tryz.underlying294,rfl,rfl,by kernel_rfl⟩,trivial⟩ (by unfold TZ;kernel_rfl) rfl (Nat.le_of_ble_eq_true rfl) ⟨_,Tryz.underlying294,by kernel_rfl⟩ (fun ks h=>by cases h),
 Yj (m:=⟨3,3,.int,.int⟩) (ty:=.bool) ⟨⟨_,Tryz.underlying298,rfl⟩,by kernel_rfl⟩ rfl ⟨Tryz.underlying298,kk3,ek3⟩,
 zD (ty:=.bool) (b:=8) ⟨⟨_,Tryz.underlying300,rfl⟩,by kernel_rfl⟩ rfl (by unfold TZ;kernel_rfl),
 zD (ty:=.bool) (b:=8) ⟨⟨_,Tryz.underlying333,rfl⟩,by kernel_rfl⟩ rfl (by unfold TZ;kernel_rfl),trivial⟩
theorem mixed:Tryz.prog.follows .mixedOrders=true:=by kernel_rfl
def zG:FS:=⟨[.rd y89,.rd y3],[y3],tU,none⟩
def wF:FS:=⟨[.rd y26,.rd y3],[y3],sB,none⟩
def zH:FS:=⟨[.rd y90,.rd y3],[y3],tV,none⟩
def rE:FS:=⟨[.rd XP,.rd y3],[y3],jV,none⟩
def qB:FS:=⟨[.rd y22,.rd y3],[y3],mr,none⟩
def xp:FS:=⟨[.rd XQ,.rd y3],[y3],ry,none⟩
def Cc:FS:=⟨[.rd XR,.rd y3],[y3],sC,none⟩
def qC:FS:=⟨[.rd XS,.rd y3],[y3],iR,none⟩
def pe:FS:=⟨[.rd y23,.rd y3],[y3],kR,none⟩
def tg:FS:=⟨[.rd y25,.rd y3],[y3],lz,none⟩
def zI:FS:=⟨[.rd y89],[y89],pX,none⟩
def wG:FS:=⟨[.rd y26],[y26],o7,none⟩
def zJ:FS:=⟨[.rd y90],[y90],pY,none⟩
def rF:FS:=⟨[.rd XP],[y92],jW,none⟩
def qD:FS:=⟨[.rd y22],[y35],iS,none⟩
def zK:FS:=⟨[.rd Yl],[xo],pZ,none⟩
def xq:FS:=⟨[.rd XQ],[Ld],om,none⟩
def Cd:FS:=⟨[.rd XR],[sQ],sD,none⟩
def qF:FS:=⟨[.rd XS],[FK],iT,none⟩
def pf:FS:=⟨[.rd y23],[y36],gV,none⟩
def th:FS:=⟨[.rd y25],[y38],eC,none⟩
def zL:FS:=⟨[.rd y89,.rd y89],[y4],tW,none⟩
def wH:FS:=⟨[.rd y26,.rd y26],[y4],sE,none⟩
def zM:FS:=⟨[.rd y90,.rd y90],[y4],tX,none⟩
def rG:FS:=⟨[.rd y92,.rd y92],[y4],jY,none⟩
def qG:FS:=⟨[.rd y35,.rd y35],[y4],mu,none⟩
def zN:FS:=⟨[.rd xo,.rd xo],[y4],p7,none⟩
def xr:FS:=⟨[.rd Ld,.rd Ld],[y4],rz,none⟩
def Ce:FS:=⟨[.rd sQ,.rd sQ],[y4],sF,none⟩
def qH:FS:=⟨[.rd FK,.rd FK],[y4],iU,none⟩
def pg:FS:=⟨[.rd y36,.rd y36],[y4],kS,none⟩
def tj:FS:=⟨[.rd y38,.rd y38],[y4],lE,none⟩
def vf:FS:=⟨[.ow y89,.rd y3],[y3],mM,none⟩
def rH:FS:=⟨[.ow y26,.rd y3],[y3],l5,none⟩
def vh:FS:=⟨[.ow y90,.rd y3],[y3],mN,none⟩
def oy:FS:=⟨[.ow y35,.rd y3],[y3],fX,none⟩
def tk:FS:=⟨[.ow Ld,.rd y3],[y3],lF,none⟩
def nK:FS:=⟨[.ow y36,.rd y3],[y3],fx,none⟩
def qI:FS:=⟨[.ow y38,.rd y3],[y3],iX,none⟩
def zO:FS:=⟨[.rd y27,.rd y3],[y3],tY,none⟩
def zP:FS:=⟨[.rd y29,.rd y3],[y3],p8,none⟩
def xt:FS:=⟨[.rd y51,.rd y3],[y3],rA,none⟩
def vi:FS:=⟨[.rd y53,.rd y3],[y3],mO,none⟩
def Cf:FS:=⟨[.rd Ym],[L6],sG,none⟩
def zQ:FS:=⟨[.rd y27],[y40],p9,none⟩
def zR:FS:=⟨[.rd y29],[y42],qa,none⟩
def xu:FS:=⟨[.rd y51],[y64],oo,none⟩
def vj:FS:=⟨[.rd y53],[y66],fy,none⟩
def qJ:FS:=⟨[.rd y55],[y61],dL,none⟩
def qK:FS:=⟨[.rd y61,.rd y61],[y4],dM,none⟩
def Cg:FS:=⟨[.rd L6,.rd L6],[y4],sH,none⟩
def zS:FS:=⟨[.rd y40,.rd y40],[y4],tZ,none⟩
def zT:FS:=⟨[.rd y42,.rd y42],[y4],qb,none⟩
def xw:FS:=⟨[.rd y64,.rd y64],[y4],rB,none⟩
def vk:FS:=⟨[.rd y66,.rd y66],[y4],mP,none⟩
def vl:FS:=⟨[.ow y40,.rd y3],[y3],mQ,none⟩
def tl:FS:=⟨[.ow y64,.rd y3],[y3],lI,none⟩
def rI:FS:=⟨[.ow y66,.rd y3],[y3],gq,none⟩
def Ci:FS:=⟨[.rd sP,.rd sP],[y4],sI,none⟩
def zU:FS:=⟨[.rd y32,.rd y32],[y4],qc,none⟩
def zV:FS:=⟨[.rd y58,.rd y58],[y4],qd,none⟩
def vm:FS:=⟨[.rd y60,.rd y60],[y4],mR,none⟩
def tm:FS:=⟨[.rd y78,.rd y78],[y4],iC,none⟩
def lS:FS:=⟨[.rd y3,.rd y3,.rd y3],[y4],c9,none⟩
def Cj:FS:=⟨[.rd y42,.rd L6],[y4],Cb,none⟩
def jf:FS:=⟨[.rd y42],[y4],bH,none⟩
def vn:FS:=⟨[.rd y26,.rd y26],[y3],nv,none⟩
def ga:FS:=⟨[.rd y66],[y4],bq,none⟩
def k7:FS:=⟨[.rd y66],[y3],bY,none⟩
def qm:FS:=⟨[.rd y38,.rd y3],[y3],gZ,none⟩
def xx:FS:=⟨[.rd y3],[y4],ot,none⟩
def uc:FS:=⟨[.rd xo],[y3],nw,none⟩
def Ck:FS:=⟨[.rd sQ],[y4],sJ,none⟩
def rJ:FS:=⟨[.rd sQ],[y4],j7,none⟩
def qn:FS:=⟨[.rd Ld],[y3],gr,none⟩
def qo (n:Nat):FS:=⟨[.rd Ld],[y3],dt n,none⟩
def wI:FS:=⟨[.rd Ld],[sQ],kT,none⟩
def wJ:FS:=⟨[.rd sQ,.rd sQ,.rd xo],[sQ],kU,none⟩
def Cl:FS:=⟨[.rd y3],[sQ],o8,none⟩
def oz (n:Nat):FS:=⟨[.rd sQ,.rd y3,.rd y3],[sQ],jz n,none⟩
def mV (n:Nat):FS:=⟨[.rd Ld],[sQ],ct n,none⟩
def tn:FS:=⟨[.rd sQ],[sQ,y4],lL,none⟩
def zW:FS:=⟨[.ptr 224 JO,.rd y3,.rd y3],[],ny,none⟩
def oA (n:Nat):FS:=⟨[.ptr 224 JO,.rd Ld],[Zi],cU n,none⟩
def oB:FS:=⟨[.rd sQ],[JO,y4],fY,none⟩
def xy:FS:=⟨[.rd JO,.rd y3,.rd y3],[y3],ou,none⟩
def ud:FS:=⟨[.rd y26,.rd y3],[y3],nz,none⟩
def tp:FS:=⟨[.rd JO,.rd y3],[y4],lM,none⟩
def tq:FS:=⟨[.rd JO,.rd y3],[y92,y4],iE,none⟩
def tu:FS:=⟨[],[y92],oP,none⟩
def vo:FS:=⟨[.rd y92,.rd y26,.rd y89],[y92],hY,none⟩
def ue:FS:=⟨[.rd y92],[y89],kV,none⟩
def Cm:FS:=⟨[.rd y92,.rd y26,.rd y3],[y26],o9,none⟩
def tv:FS:=⟨[.rd y92],[y26],iH,none⟩
def rK:FS:=⟨[.rd y92],[y92],j8,none⟩
def rL:FS:=⟨[.rd sQ],[y92,y4],gy,none⟩
def k8:FS:=⟨[.rd y92,.rd y92],[y4],eZ,none⟩
def xz:FS:=⟨[.rd y35,.rd y92],[y3],l6,none⟩
def xA:FS:=⟨[.rd y36],[y38,y4],ox,none⟩
def tw:FS:=⟨[.rd sQ,.rd sQ],[y4],lO,none⟩
def nL:FS:=⟨[.rd y38,.rd y38],[y4],fA,none⟩
def jq:FS:=⟨[.rd y38],[y4],cG,none⟩
def zX:FS:=⟨[.rd y66,.rd y38,.rd y61],[y4],nA,none⟩
def zY:FS:=⟨[.rd y92],[y92],qf,none⟩
def oC:FS:=⟨[.rd y38,.rd y3],[y92,y4],dX,none⟩
def zZ:FS:=⟨[.rd y92],[y4],nB,none⟩
def mD:FS:=⟨[.rd y92],[y4],cx,none⟩
def Aa:FS:=⟨[.rd y42,.rd y92,.rd y3,.rd y3],[y4],jn,none⟩
def oR:FS:=⟨[.rd y92,.rd y3,.rd y3],[y3],eD,none⟩
def Cn:FS:=⟨[.rd y42,.rd y3],[Zf],pa,none⟩
def vp:FS:=⟨[.rd y42,.rd y3],[y3],ic,none⟩
def vq:FS:=⟨[.rd L6,.rd y4],[y3],fB,none⟩
def FL:FS:=⟨[.rd L6,.rd y4],[y3],nC,none⟩
def xB:FS:=⟨[.rd y42,.rd y92,.rd y3,.rd y3],[Ze],jA,none⟩
def xC:FS:=⟨[.rd y42,.rd y92,.rd y3],[y26],l7,none⟩
def tx:FS:=⟨[.rd y42,.rd y92,.rd y3,.rd y3],[y4],iJ,none⟩
def FM:FS:=⟨[.rd y3],[y26],vc,none⟩
def Ab:FS:=⟨[.rd y42,.rd y92,.rd y3],[y26],nD,none⟩
def tz:FS:=⟨[.rd y42,.rd y92],[y32],iL,none⟩
def qL:FS:=⟨[.rd y38,.rd y42,.rd y3],[y32,y4],cz,none⟩
def Co:FS:=⟨[.rd y42],[y42],pb,none⟩
def Ac:FS:=⟨[.rd y66,.rd y3],[y42,y4],gG,none⟩
def Cp:FS:=⟨[.rd y32,.rd sP],[y4],sK,none⟩
def Ad:FS:=⟨[.rd sP,.rd sP],[y4],qg,none⟩
def Cq:FS:=⟨[.eat (.sl 103 sP),.rd sP],[y32],sL,none⟩
def ph:FS:=⟨[.rd y32,.rd y32],[y32],fa,none⟩
def qM:FS:=⟨[.rd y32,.rd y32],[y58],ja,none⟩
def tC:FS:=⟨[.rd y66,.rd y38,.rd y61,.rd y3],[y60],iM,none⟩
def rM:FS:=⟨[.rd y66,.rd y38,.rd y61],[y60,y61,y4],du,none⟩
def pj:FS:=⟨[.rd y66,.rd y38,.rd y61],[y78,y61],ig,none⟩
def fT:FS:=⟨[.rd y3,.rd y3,.rd y3],[y4],bD,none⟩
def Cr:FS:=⟨[.rd L6,.rd y3],[y4],pc,none⟩
def jg:FS:=⟨[.rd y42],[y4],aQ,none⟩
def cD:FS:=⟨[.rd y26,.rd y26],[y4],bO,none⟩
def gb:FS:=⟨[.rd y66],[y4],aL,none⟩
def k9:FS:=⟨[.rd y66],[y3],bZ,none⟩
def cq:FS:=⟨[.rd y36,.fn [FK] [y4]],[y3],bt,none⟩
def rN:FS:=⟨[.rd FK,.cap 3 y3],[y4],ka,none⟩
def qp:FS:=⟨[.rd y38,.rd y3],[y3],ij,none⟩
def rO:FS:=⟨[.rd y3],[y4],jB,none⟩
def Ae:FS:=⟨[.rd xo],[y4],qi,none⟩
def aZ:FS:=⟨[.rd XT],[XT],fun _=>none,some (263,8)⟩
def sR:FS:=⟨[.rd sQ],[t263],ng,none⟩
def Cs:FS:=⟨[.rd sQ],[y4],sM,none⟩
def rP:FS:=⟨[.rd sQ],[y4],kc,none⟩
def lT (n:Nat):FS:=⟨[.rd t263],[y3],br n,none⟩
def JP:FS:=⟨[.rd y3],[t263],Dt,none⟩
def oD (n:Nat):FS:=⟨[.eat t263,.rd y3,.rd y3],[t263],jC n,none⟩
def kt (n:Nat):FS:=⟨[.rd t263],[t263],aU n,none⟩
def jh (n:Nat):FS:=⟨[.rd t263,.ptr 144 sQ],[],aS n,none⟩
def vr:FS:=⟨[.rd t263],[sQ],qk,none⟩
def tD:FS:=⟨[.rd sQ],[sQ,y4],lQ,none⟩
def mE:FS:=⟨[.ptr 224 JO,.rd y3,.rd y3],[],de,none⟩
def fJ (n:Nat):FS:=⟨[.ptr 224 JO,.rd t263],[Zj],aV n,none⟩
def oE:FS:=⟨[.rd sQ],[JO,y4],fZ,none⟩
def my:FS:=⟨[.rd y3,.rd y3,.fn [y3] [y4],.fn [y3,y3] [y3,y4]],[y92,y4],dO,none⟩
def me:FS:=⟨[.rd JO,.rd y3],[y4],cY,none⟩
def nM:FS:=⟨[.rd JO,.rd y3,.rd y3],[y3],fC,none⟩
def pn:FS:=⟨[.rd y3,.rd y3,.cap 224 JO],[y3,y4],cK,none⟩
def rQ:FS:=⟨[.rd JO,.rd y3],[y92,y4],gH,none⟩
def be:FS:=⟨[.rd y89],[y89],fun _=>none,some (4,1)⟩
def oF:FS:=⟨[.rd y92],[y89],dZ,none⟩
def dI:FS:=⟨[.rd y90,.fn [y26] [y4]],[y3],bz,none⟩
def kL:FS:=⟨[.rd y26,.cap 26 y26],[y4],fV,none⟩
def mF:FS:=⟨[.rd y92,.rd y26],[y26,y3],df,none⟩
def mf:FS:=⟨[.rd y92],[y26],c8,none⟩
def nO:FS:=⟨[.rd WS,.rd WS],[WS,WS],ua,none⟩
def nP:FS:=⟨[.rd WU,.rd WU],[WU,WU],nE,none⟩
def po:FS:=⟨[.rd WR,.rd WR],[WR,WR],pd,none⟩
def dA:FS:=⟨[.rd y26,.rd y3],[y26],bG,none⟩
def Af:FS:=⟨[],[y92],ub,none⟩
def iu:FS:=⟨[.rd y26,.rd y3],[y3],dJ,none⟩
def jD:FS:=⟨[.rd y3,.cap 26 y26],[y3],aK,none⟩
def jE:FS:=⟨[.rd y3,.cap 92 y92,.capf 300 [y3] [y3]],[y4],b8,none⟩
def gf:FS:=⟨[.rd y92,.rd y3,.rd y3],[y3],a6,none⟩
def jF:FS:=⟨[.rd y3,.rd y3,.cap 92 y92,.capf 300 [y3] [y3],.cap 26 y26],[y3,y4],b9,none⟩
def kM:FS:=⟨[.rd y92],[y92],dG,none⟩
def FN:FS:=⟨[.rd y92],[y92,y4],zF,none⟩
def rR:FS:=⟨[.rd sQ],[y92,y4],gJ,none⟩
def cA:FS:=⟨[.rd y35,.fn [y92] [y4]],[y3],aJ,none⟩
def gg:FS:=⟨[.rd y89,.rd y89],[y4],di,none⟩
def bT:FS:=⟨[.rd y90,.rd y90,.fn [y26,y26] [y4]],[y4],a7,none⟩
def nQ:FS:=⟨[.rd y26,.rd y26],[y4],fD,none⟩
def lf:FS:=⟨[.rd y92,.rd y92],[y4],dk,none⟩
def xD:FS:=⟨[.rd y92,.cap 92 y92],[y4],ma,none⟩
def xE:FS:=⟨[.rd sQ],[sQ],mb,none⟩
def Ct:FS:=⟨[.rd y36],[y38,y4],sN,none⟩
def aX:FS:=⟨[.rd y35,.rd y35,.fn [y92,y92] [y4]],[y4],aH,none⟩
def aT:FS:=⟨[.rd y36,.rd y36,.fn [FK,FK] [y4]],[y4],aG,none⟩
def fo:FS:=⟨[.rd Ld,.rd Ld],[y4],bR,none⟩
def tE:FS:=⟨[.rd sQ,.rd sQ],[y4],lR,none⟩
def qN:FS:=⟨[.rd FK,.rd FK],[y4],fO,none⟩
def nR:FS:=⟨[.rd y38,.rd y38],[y4],fE,none⟩
def jr:FS:=⟨[.rd y38],[y4],cL,none⟩
def Ag:FS:=⟨[.rd y66,.rd y38,.rd y61],[y4],nF,none⟩
def oG:FS:=⟨[.rd y26],[y26],gK,none⟩
def pq:FS:=⟨[.rd y92],[y92],il,none⟩
def oH:FS:=⟨[.rd y38,.rd y3],[y92,y4],eb,none⟩
def mG:FS:=⟨[.rd y92],[y4],bQ,none⟩
def wK:FS:=⟨[.rd y42,.rd y92,.rd y26],[y4],cy,none⟩
def Cu:FS:=⟨[.rd y90,.rd y26],[y26],sO,none⟩
def qq:FS:=⟨[.rd y3],[y26],gL,none⟩
def FO:FS:=⟨[.rd L6,.rd y4],[y3],rC,none⟩
def JQ:FS:=⟨[.rd y42],[Zh],vd,none⟩
def uf:FS:=⟨[.rd y92,.rd y3,.rd y3],[y3],eE,none⟩
def FP:FS:=⟨[.rd y92,.rd y3,.rd y3,.rd y3],[y3],rD,none⟩
def qO:FS:=⟨[.rd y42,.rd y92],[y90],dP,none⟩
def pv:FS:=⟨[.rd y42,.rd y92,.rd y3],[y26],fc,some (0,7)⟩
def vt:FS:=⟨[.rd y92,.rd y3,.rd y3],[y4],kj,none⟩
def iO:FS:=⟨[.ow (.sl 3 y3)],[],eF,none⟩
def gh:FS:=⟨[.eat (.sl 3 y3)],[.sl 3 y3],cg,none⟩
def vu:FS:=⟨[.rd y26],[y26],kl,none⟩
def rS:FS:=⟨[.rd y42,.rd y92,.rd y3],[y26],gN,none⟩
def tF:FS:=⟨[.rd y42,.rd y92],[y32],iN,none⟩
def qP:FS:=⟨[.rd y38,.rd y42,.rd y3],[y32,y4],fP,none⟩
def vv:FS:=⟨[.rd y42],[y42],km,none⟩
def Ah:FS:=⟨[.rd y66,.rd y3],[y42,y4],nH,none⟩
def vx:FS:=⟨[.rd y66,.rd y38,.rd y3,.rd y3],[y32,y4],fG,none⟩
def eH:FS:=⟨[.rd y32,.fn [sP] [y4]],[y3],bg,none⟩
def eh:FS:=⟨[.eat (.sl 103 sP),.fn [sP] [y4]],[.sl 103 sP],bB,none⟩
def rT:FS:=⟨[.rd y3,.rd y3],[y3],nI,none⟩
def qQ:FS:=⟨[.rd sP,.rd sP],[y3],xO,none⟩
def fj:FS:=⟨[.ow (.sl 103 sP),.fk 164],[],cO,none⟩
def fp:FS:=⟨[.eat (.sl 103 sP)],[.sl 103 sP],bS,none⟩
def Ai:FS:=⟨[.rd y32],[y32],ql,none⟩
def gi:FS:=⟨[.rd y32,.rd sP],[y3],cj,none⟩
def fl:FS:=⟨[.rd y32,.rd sP],[y4],bM,none⟩
def nS:FS:=⟨[.rd sP,.cap 32 y32],[y4],jo,none⟩
def pw:FS:=⟨[.rd y32,.rd y32],[y32],ff,none⟩
def qR:FS:=⟨[.rd y32,.rd y32],[y58],jc,none⟩
def Aj:FS:=⟨[.rd y66,.rd y38,.rd y61,.rd y3],[y60,y61,y4],nJ,none⟩
def rU:FS:=⟨[.rd y66,.rd y38,.rd y61],[y60,y61,y4],fg,none⟩
def px:FS:=⟨[.rd y66,.rd y38,.rd y61],[y78,y61],fh,none⟩
def vy:FS:=⟨[.ow y32,.rd y3],[y3],ko,none⟩
def qS:FS:=⟨[.ow y78,.rd y3],[y3],fQ,none⟩
def vz:FS:=⟨[.rd y32,.rd y3],[y3],kp,none⟩
def qT:FS:=⟨[.rd y78,.rd y3],[y3],dR,none⟩
def py:FS:=⟨[.rd y53,.rd y25,.rd y55],[y4],da,none⟩
end R
namespace R
open Go.RowKit
open D
theorem HK:FOk Tryz.prog 126 zG:=fok (V:=⟨tt,[],[],12,[]⟩) al trivial mixed Tryz.func126 rfl rfl (enters_of Tryz.func126 (by kernel_rfl) rfl) rfl (Nat.le_of_ble_eq_true rfl) rfl .no (fun d=>by kernel_rfl)
theorem Cv:FOk Tryz.prog 45 wF:=fok (V:=⟨tt,[],[],12,[]⟩) al trivial mixed Tryz.func45 rfl rfl (enters_of Tryz.func45 (by kernel_rfl) rfl) rfl (Nat.le_of_ble_eq_true rfl) rfl .no (fun d=>by kernel_rfl)
theorem HL:FOk Tryz.prog 127 zH:=fok (V:=⟨tt,[(45,wF)],[],27,[]⟩) al ⟨Cv,trivial⟩ mixed Tryz.func127 rfl rfl (enters_of Tryz.func127 (by kernel_rfl) rfl) rfl (Nat.le_of_ble_eq_true rfl) rfl (.two .no (.two .no (.two .no (.two (.two .no (.loop [.slot 1 (.num .i64),.slot 5 (.num .i64)] .no)) .no)))) (fun d=>by kernel_rfl)
theorem Ak:FOk Tryz.prog 87 rE:=fok (V:=⟨tt,[(126,zG),(127,zH)],[],18,[]⟩) al ⟨HK,HL,trivial⟩ mixed Tryz.func87 rfl rfl (enters_of Tryz.func87 (by kernel_rfl) rfl) rfl (Nat.le_of_ble_eq_true rfl) rfl .no (fun d=>by kernel_rfl)
theorem xP:FOk Tryz.prog 43 qB:=fok (V:=⟨tt,[(87,rE)],[],27,[]⟩) al ⟨Ak,trivial⟩ mixed Tryz.func43 rfl rfl (enters_of Tryz.func43 (by kernel_rfl) rfl) rfl (Nat.le_of_ble_eq_true rfl) rfl (.two .no (.two .no (.two .no (.two (.two .no (.loop [.slot 1 (.num .i64),.slot 5 (.num .i64)] .no)) .no)))) (fun d=>by kernel_rfl)
theorem FQ:FOk Tryz.prog 165 xp:=fok (V:=⟨tt,[],[],12,[]⟩) al trivial mixed Tryz.func165 rfl rfl (enters_of Tryz.func165 (by kernel_rfl) rfl) rfl (Nat.le_of_ble_eq_true rfl) rfl .no (fun d=>by kernel_rfl)
theorem Le:FOk Tryz.prog 128 Cc:=fok (V:=⟨tt,[(165,xp)],[],12,[]⟩) al ⟨FQ,trivial⟩ mixed Tryz.func128 rfl rfl (enters_of Tryz.func128 (by kernel_rfl) rfl) rfl (Nat.le_of_ble_eq_true rfl) rfl .no (fun d=>by kernel_rfl)
theorem xQ:FOk Tryz.prog 88 qC:=fok (V:=⟨tt,[(128,Cc)],[],12,[]⟩) al ⟨Le,trivial⟩ mixed Tryz.func88 rfl rfl (enters_of Tryz.func88 (by kernel_rfl) rfl) rfl (Nat.le_of_ble_eq_true rfl) rfl .no (fun d=>by kernel_rfl)
theorem wL:FOk Tryz.prog 44 pe:=fok (V:=⟨tt,[(88,qC)],[],27,[]⟩) al ⟨xQ,trivial⟩ mixed Tryz.func44 rfl rfl (enters_of Tryz.func44 (by kernel_rfl) rfl) rfl (Nat.le_of_ble_eq_true rfl) rfl (.two .no (.two .no (.two .no (.two (.two .no (.loop [.slot 1 (.num .i64),.slot 5 (.num .i64)] .no)) .no)))) (fun d=>by kernel_rfl)
theorem Bh:FOk Tryz.prog 8 tg:=fok (V:=⟨tt,[(43,qB),(44,pe)],[],18,[]⟩) al ⟨xP,wL,trivial⟩ mixed Tryz.func8 rfl rfl (enters_of Tryz.func8 (by kernel_rfl) rfl) rfl (Nat.le_of_ble_eq_true rfl) rfl .no (fun d=>by kernel_rfl)
theorem HM:FOk Tryz.prog 135 zI:=fok (V:=⟨tt,[],[],22,[]⟩) al trivial mixed Tryz.func135 rfl rfl (enters_of Tryz.func135 (by kernel_rfl) rfl) rfl (Nat.le_of_ble_eq_true rfl) rfl (.two .no (.two .no (.two (.two .no (.loop [.row 3 4 y4,.slot 4 (.num .i64)] .no)) .no))) (fun d=>by kernel_rfl)
theorem Cw:FOk Tryz.prog 52 wG:=fok (V:=⟨tt,[],[],22,[]⟩) al trivial mixed Tryz.func52 rfl rfl (enters_of Tryz.func52 (by kernel_rfl) rfl) rfl (Nat.le_of_ble_eq_true rfl) rfl (.two .no (.two .no (.two (.two .no (.loop [.row 3 3 y3,.slot 4 (.num .i64)] .no)) .no))) (fun d=>by kernel_rfl)
theorem HO:FOk Tryz.prog 136 zJ:=fok (V:=⟨tt,[(52,wG)],[],23,[]⟩) al ⟨Cw,trivial⟩ mixed Tryz.func136 rfl rfl (enters_of Tryz.func136 (by kernel_rfl) rfl) rfl (Nat.le_of_ble_eq_true rfl) rfl (.two .no (.two .no (.two (.two .no (.loop [.row 3 26 y26,.slot 4 (.num .i64)] .no)) .no))) (fun d=>by kernel_rfl)
theorem Al:FOk Tryz.prog 96 rF:=fok (V:=⟨tt,[(135,zI),(136,zJ)],[],16,[]⟩) al ⟨HM,HO,trivial⟩ mixed Tryz.func96 rfl rfl (enters_of Tryz.func96 (by kernel_rfl) rfl) rfl (Nat.le_of_ble_eq_true rfl) rfl .no (fun d=>by kernel_rfl)
theorem xR:FOk Tryz.prog 50 qD:=fok (V:=⟨tt,[(96,rF)],[],23,[]⟩) al ⟨Al,trivial⟩ mixed Tryz.func50 rfl rfl (enters_of Tryz.func50 (by kernel_rfl) rfl) rfl (Nat.le_of_ble_eq_true rfl) rfl (.two .no (.two .no (.two (.two .no (.loop [.row 3 92 y92,.slot 4 (.num .i64)] .no)) .no))) (fun d=>by kernel_rfl)
theorem HP:FOk Tryz.prog 206 zK:=fok (V:=⟨tt,[],[],17,[]⟩) al trivial mixed Tryz.func206 rfl rfl (enters_of Tryz.func206 (by kernel_rfl) rfl) rfl (Nat.le_of_ble_eq_true rfl) rfl .no (fun d=>by kernel_rfl)
theorem FR:FOk Tryz.prog 174 xq:=fok (V:=⟨tt,[(206,zK)],[],23,[]⟩) al ⟨HP,trivial⟩ mixed Tryz.func174 rfl rfl (enters_of Tryz.func174 (by kernel_rfl) rfl) rfl (Nat.le_of_ble_eq_true rfl) rfl (.two .no (.two .no (.two (.two .no (.loop [.row 3 188 xo,.slot 4 (.num .i64)] .no)) .no))) (fun d=>by kernel_rfl)
end R
namespace R
open Go.RowKit
open D
theorem Lf:FOk Tryz.prog 137 Cd:=fok (V:=⟨tt,[(174,xq)],[],9,[]⟩) al ⟨FR,trivial⟩ mixed Tryz.func137 rfl rfl (enters_of Tryz.func137 (by kernel_rfl) rfl) rfl (Nat.le_of_ble_eq_true rfl) rfl .no (fun d=>by kernel_rfl)
theorem xS:FOk Tryz.prog 97 qF:=fok (V:=⟨tt,[(137,Cd)],[],15,[]⟩) al ⟨Lf,trivial⟩ mixed Tryz.func97 rfl rfl (enters_of Tryz.func97 (by kernel_rfl) rfl) rfl (Nat.le_of_ble_eq_true rfl) rfl .no (fun d=>by kernel_rfl)
theorem wM:FOk Tryz.prog 51 pf:=fok (V:=⟨tt,[(97,qF)],[],23,[]⟩) al ⟨xS,trivial⟩ mixed Tryz.func51 rfl rfl (enters_of Tryz.func51 (by kernel_rfl) rfl) rfl (Nat.le_of_ble_eq_true rfl) rfl (.two .no (.two .no (.two (.two .no (.loop [.row 3 146 FK,.slot 4 (.num .i64)] .no)) .no))) (fun d=>by kernel_rfl)
theorem Bi:FOk Tryz.prog 11 th:=fok (V:=⟨tt,[(50,qD),(51,pf)],[],13,[]⟩) al ⟨xR,wM,trivial⟩ mixed Tryz.func11 rfl rfl (enters_of Tryz.func11 (by kernel_rfl) rfl) rfl (Nat.le_of_ble_eq_true rfl) rfl .no (fun d=>by kernel_rfl)
theorem HQ:FOk Tryz.prog 147 zL:=fok (V:=⟨tt,[],[],26,[]⟩) al trivial mixed Tryz.func147 rfl rfl (enters_of Tryz.func147 (by kernel_rfl) rfl) rfl (Nat.le_of_ble_eq_true rfl) rfl (.two .no (.two .no (.two (.two .no (.loop [.slot 5 (.num .i64)] .no)) .no))) (fun d=>by kernel_rfl)
theorem Cx:FOk Tryz.prog 60 wH:=fok (V:=⟨tt,[],[],26,[]⟩) al trivial mixed Tryz.func60 rfl rfl (enters_of Tryz.func60 (by kernel_rfl) rfl) rfl (Nat.le_of_ble_eq_true rfl) rfl (.two .no (.two .no (.two (.two .no (.loop [.slot 5 (.num .i64)] .no)) .no))) (fun d=>by kernel_rfl)
theorem HS:FOk Tryz.prog 148 zM:=fok (V:=⟨tt,[(60,wH)],[],27,[]⟩) al ⟨Cx,trivial⟩ mixed Tryz.func148 rfl rfl (enters_of Tryz.func148 (by kernel_rfl) rfl) rfl (Nat.le_of_ble_eq_true rfl) rfl (.two .no (.two .no (.two (.two .no (.loop [.slot 5 (.num .i64)] .no)) .no))) (fun d=>by kernel_rfl)
theorem Am:FOk Tryz.prog 106 rG:=fok (V:=⟨tt,[(147,zL),(148,zM)],[],22,[]⟩) al ⟨HQ,HS,trivial⟩ mixed Tryz.func106 rfl rfl (enters_of Tryz.func106 (by kernel_rfl) rfl) rfl (Nat.le_of_ble_eq_true rfl) rfl .no (fun d=>by kernel_rfl)
theorem xT:FOk Tryz.prog 58 qG:=fok (V:=⟨tt,[(106,rG)],[],27,[]⟩) al ⟨Am,trivial⟩ mixed Tryz.func58 rfl rfl (enters_of Tryz.func58 (by kernel_rfl) rfl) rfl (Nat.le_of_ble_eq_true rfl) rfl (.two .no (.two .no (.two (.two .no (.loop [.slot 5 (.num .i64)] .no)) .no))) (fun d=>by kernel_rfl)
theorem HT:FOk Tryz.prog 220 zN:=fok (V:=⟨tt,[],[],25,[]⟩) al trivial mixed Tryz.func220 rfl rfl (enters_of Tryz.func220 (by kernel_rfl) rfl) rfl (Nat.le_of_ble_eq_true rfl) rfl .no (fun d=>by kernel_rfl)
theorem FU:FOk Tryz.prog 189 xr:=fok (V:=⟨tt,[(220,zN)],[],27,[]⟩) al ⟨HT,trivial⟩ mixed Tryz.func189 rfl rfl (enters_of Tryz.func189 (by kernel_rfl) rfl) rfl (Nat.le_of_ble_eq_true rfl) rfl (.two .no (.two .no (.two (.two .no (.loop [.slot 5 (.num .i64)] .no)) .no))) (fun d=>by kernel_rfl)
theorem Lg:FOk Tryz.prog 149 Ce:=fok (V:=⟨tt,[(189,xr)],[],11,[]⟩) al ⟨FU,trivial⟩ mixed Tryz.func149 rfl rfl (enters_of Tryz.func149 (by kernel_rfl) rfl) rfl (Nat.le_of_ble_eq_true rfl) rfl .no (fun d=>by kernel_rfl)
theorem xU:FOk Tryz.prog 107 qH:=fok (V:=⟨tt,[(149,Ce)],[],21,[]⟩) al ⟨Lg,trivial⟩ mixed Tryz.func107 rfl rfl (enters_of Tryz.func107 (by kernel_rfl) rfl) rfl (Nat.le_of_ble_eq_true rfl) rfl .no (fun d=>by kernel_rfl)
theorem wN:FOk Tryz.prog 59 pg:=fok (V:=⟨tt,[(107,qH)],[],27,[]⟩) al ⟨xU,trivial⟩ mixed Tryz.func59 rfl rfl (enters_of Tryz.func59 (by kernel_rfl) rfl) rfl (Nat.le_of_ble_eq_true rfl) rfl (.two .no (.two .no (.two (.two .no (.loop [.slot 5 (.num .i64)] .no)) .no))) (fun d=>by kernel_rfl)
theorem Bj:FOk Tryz.prog 15 tj:=fok (V:=⟨tt,[(58,qG),(59,pg)],[],17,[]⟩) al ⟨xT,wN,trivial⟩ mixed Tryz.func15 rfl rfl (enters_of Tryz.func15 (by kernel_rfl) rfl) rfl (Nat.le_of_ble_eq_true rfl) rfl .no (fun d=>by kernel_rfl)
theorem Du:FOk Tryz.prog 109 vf:=fok (V:=⟨tt,[],[],21,[]⟩) al trivial mixed Tryz.func109 rfl rfl (enters_of Tryz.func109 (by kernel_rfl) rfl) rfl (Nat.le_of_ble_eq_true rfl) rfl (.two .no (.two (.two .no (.loop [.par 0 [] 4 y4,.slot 1 (.num .i64),.slot 5 (.num .i64)] .no)) .no)) (fun d=>by kernel_rfl)
theorem xF:FOk Tryz.prog 64 rH:=fok (V:=⟨tt,[],[],19,[]⟩) al trivial mixed Tryz.func64 rfl rfl (enters_of Tryz.func64 (by kernel_rfl) rfl) rfl (Nat.le_of_ble_eq_true rfl) rfl (.two .no (.two (.two .no (.loop [.par 0 [] 3 y3,.slot 1 (.num .i64),.slot 5 (.num .i64)] .no)) .no)) (fun d=>by kernel_rfl)
end R
namespace R
open Go.RowKit
open D
theorem Dv:FOk Tryz.prog 110 vh:=fok (V:=⟨tt,[(64,rH)],[],19,[]⟩) al ⟨xF,trivial⟩ mixed Tryz.func110 rfl rfl (enters_of Tryz.func110 (by kernel_rfl) rfl) rfl (Nat.le_of_ble_eq_true rfl) rfl (.two .no (.two (.two .no (.loop [.par 0 [] 26 y26,.slot 1 (.num .i64),.slot 5 (.num .i64)] .no)) .no)) (fun d=>by kernel_rfl)
theorem vA:FOk Tryz.prog 62 oy:=fok (V:=⟨tt,[(109,vf),(110,vh)],[],34,[]⟩) al ⟨Du,Dv,trivial⟩ mixed Tryz.func62 rfl rfl (enters_of Tryz.func62 (by kernel_rfl) rfl) rfl (Nat.le_of_ble_eq_true rfl) rfl (.two .no (.two (.two .no (.loop [.par 0 [] 92 y92,.slot 1 (.num .i64),.slot 5 (.num .i64)] .no)) .no)) (fun d=>by kernel_rfl)
theorem Bk:FOk Tryz.prog 111 tk:=fok (V:=⟨tt,[],[],41,[]⟩) al trivial mixed Tryz.func111 rfl rfl (enters_of Tryz.func111 (by kernel_rfl) rfl) rfl (Nat.le_of_ble_eq_true rfl) rfl (.two .no (.two (.two .no (.loop [.par 0 [] 188 xo,.slot 1 (.num .i64),.slot 5 (.num .i64)] .no)) .no)) (fun d=>by kernel_rfl)
theorem ug:FOk Tryz.prog 63 nK:=fok (V:=⟨tt,[(111,tk)],[],35,[]⟩) al ⟨Bk,trivial⟩ mixed Tryz.func63 rfl rfl (enters_of Tryz.func63 (by kernel_rfl) rfl) rfl (Nat.le_of_ble_eq_true rfl) rfl (.two .no (.two (.two .no (.loop [.par 0 [] 146 FK,.slot 1 (.num .i64),.slot 5 (.num .i64)] .no)) .no)) (fun d=>by kernel_rfl)
theorem xV:FOk Tryz.prog 17 qI:=fok (V:=⟨tt,[(62,oy),(63,nK)],[],14,[]⟩) al ⟨vA,ug,trivial⟩ mixed Tryz.func17 rfl rfl (enters_of Tryz.func17 (by kernel_rfl) rfl) rfl (Nat.le_of_ble_eq_true rfl) rfl .no (fun d=>by kernel_rfl)
theorem HU:FOk Tryz.prog 46 zO:=fok (V:=⟨tt,[],[],12,[]⟩) al trivial mixed Tryz.func46 rfl rfl (enters_of Tryz.func46 (by kernel_rfl) rfl) rfl (Nat.le_of_ble_eq_true rfl) rfl .no (fun d=>by kernel_rfl)
theorem HV:FOk Tryz.prog 9 zP:=fok (V:=⟨tt,[(45,wF),(46,zO)],[],18,[]⟩) al ⟨Cv,HU,trivial⟩ mixed Tryz.func9 rfl rfl (enters_of Tryz.func9 (by kernel_rfl) rfl) rfl (Nat.le_of_ble_eq_true rfl) rfl .no (fun d=>by kernel_rfl)
theorem FV:FOk Tryz.prog 66 xt:=fok (V:=⟨tt,[(9,zP)],[],27,[]⟩) al ⟨HV,trivial⟩ mixed Tryz.func66 rfl rfl (enters_of Tryz.func66 (by kernel_rfl) rfl) rfl (Nat.le_of_ble_eq_true rfl) rfl (.two .no (.two .no (.two .no (.two (.two .no (.loop [.slot 1 (.num .i64),.slot 5 (.num .i64)] .no)) .no)))) (fun d=>by kernel_rfl)
theorem Dw:FOk Tryz.prog 21 vi:=fok (V:=⟨tt,[(66,xt)],[],12,[]⟩) al ⟨FV,trivial⟩ mixed Tryz.func21 rfl rfl (enters_of Tryz.func21 (by kernel_rfl) rfl) rfl (Nat.le_of_ble_eq_true rfl) rfl .no (fun d=>by kernel_rfl)
theorem Lh:FOk Tryz.prog 98 Cf:=fok (V:=⟨tt,[],[],17,[]⟩) al trivial mixed Tryz.func98 rfl rfl (enters_of Tryz.func98 (by kernel_rfl) rfl) rfl (Nat.le_of_ble_eq_true rfl) rfl .no (fun d=>by kernel_rfl)
theorem HW:FOk Tryz.prog 53 zQ:=fok (V:=⟨tt,[(98,Cf)],[],23,[]⟩) al ⟨Lh,trivial⟩ mixed Tryz.func53 rfl rfl (enters_of Tryz.func53 (by kernel_rfl) rfl) rfl (Nat.le_of_ble_eq_true rfl) rfl (.two .no (.two .no (.two (.two .no (.loop [.row 3 150 L6,.slot 4 (.num .i64)] .no)) .no))) (fun d=>by kernel_rfl)
theorem HY:FOk Tryz.prog 12 zR:=fok (V:=⟨tt,[(52,wG),(53,zQ)],[],13,[]⟩) al ⟨Cw,HW,trivial⟩ mixed Tryz.func12 rfl rfl (enters_of Tryz.func12 (by kernel_rfl) rfl) rfl (Nat.le_of_ble_eq_true rfl) rfl .no (fun d=>by kernel_rfl)
theorem FW:FOk Tryz.prog 69 xu:=fok (V:=⟨tt,[(12,zR)],[],23,[]⟩) al ⟨HY,trivial⟩ mixed Tryz.func69 rfl rfl (enters_of Tryz.func69 (by kernel_rfl) rfl) rfl (Nat.le_of_ble_eq_true rfl) rfl (.two .no (.two .no (.two (.two .no (.loop [.row 3 42 y42,.slot 4 (.num .i64)] .no)) .no))) (fun d=>by kernel_rfl)
theorem Dx:FOk Tryz.prog 23 vj:=fok (V:=⟨tt,[(69,xu)],[],12,[]⟩) al ⟨FW,trivial⟩ mixed Tryz.func23 rfl rfl (enters_of Tryz.func23 (by kernel_rfl) rfl) rfl (Nat.le_of_ble_eq_true rfl) rfl .no (fun d=>by kernel_rfl)
theorem xW:FOk Tryz.prog 24 qJ:=fok (V:=⟨tt,[],[],14,[]⟩) al trivial mixed Tryz.func24 rfl rfl (enters_of Tryz.func24 (by kernel_rfl) rfl) rfl (Nat.le_of_ble_eq_true rfl) rfl .no (fun d=>by kernel_rfl)
theorem xX:FOk Tryz.prog 27 qK:=fok (V:=⟨tt,[],[],20,[]⟩) al trivial mixed Tryz.func27 rfl rfl (enters_of Tryz.func27 (by kernel_rfl) rfl) rfl (Nat.le_of_ble_eq_true rfl) rfl .no (fun d=>by kernel_rfl)
theorem Li:FOk Tryz.prog 108 Cg:=fok (V:=⟨tt,[],[],25,[]⟩) al trivial mixed Tryz.func108 rfl rfl (enters_of Tryz.func108 (by kernel_rfl) rfl) rfl (Nat.le_of_ble_eq_true rfl) rfl .no (fun d=>by kernel_rfl)
end R
namespace R
open Go.RowKit
open D
theorem HZ:FOk Tryz.prog 61 zS:=fok (V:=⟨tt,[(108,Cg)],[],27,[]⟩) al ⟨Li,trivial⟩ mixed Tryz.func61 rfl rfl (enters_of Tryz.func61 (by kernel_rfl) rfl) rfl (Nat.le_of_ble_eq_true rfl) rfl (.two .no (.two .no (.two (.two .no (.loop [.slot 5 (.num .i64)] .no)) .no))) (fun d=>by kernel_rfl)
theorem H0:FOk Tryz.prog 16 zT:=fok (V:=⟨tt,[(60,wH),(61,zS)],[],17,[]⟩) al ⟨Cx,HZ,trivial⟩ mixed Tryz.func16 rfl rfl (enters_of Tryz.func16 (by kernel_rfl) rfl) rfl (Nat.le_of_ble_eq_true rfl) rfl .no (fun d=>by kernel_rfl)
theorem FX:FOk Tryz.prog 73 xw:=fok (V:=⟨tt,[(16,zT)],[],27,[]⟩) al ⟨H0,trivial⟩ mixed Tryz.func73 rfl rfl (enters_of Tryz.func73 (by kernel_rfl) rfl) rfl (Nat.le_of_ble_eq_true rfl) rfl (.two .no (.two .no (.two (.two .no (.loop [.slot 5 (.num .i64)] .no)) .no))) (fun d=>by kernel_rfl)
theorem Dy:FOk Tryz.prog 28 vk:=fok (V:=⟨tt,[(73,xw)],[],16,[]⟩) al ⟨FX,trivial⟩ mixed Tryz.func28 rfl rfl (enters_of Tryz.func28 (by kernel_rfl) rfl) rfl (Nat.le_of_ble_eq_true rfl) rfl .no (fun d=>by kernel_rfl)
theorem Dz:FOk Tryz.prog 65 vl:=fok (V:=⟨tt,[],[],41,[]⟩) al trivial mixed Tryz.func65 rfl rfl (enters_of Tryz.func65 (by kernel_rfl) rfl) rfl (Nat.le_of_ble_eq_true rfl) rfl (.two .no (.two (.two .no (.loop [.par 0 [] 150 L6,.slot 1 (.num .i64),.slot 5 (.num .i64)] .no)) .no)) (fun d=>by kernel_rfl)
theorem Bl:FOk Tryz.prog 74 tl:=fok (V:=⟨tt,[(64,rH),(65,vl)],[],27,[]⟩) al ⟨xF,Dz,trivial⟩ mixed Tryz.func74 rfl rfl (enters_of Tryz.func74 (by kernel_rfl) rfl) rfl (Nat.le_of_ble_eq_true rfl) rfl (.two .no (.two (.two .no (.loop [.par 0 [] 42 y42,.slot 1 (.num .i64),.slot 5 (.num .i64)] .no)) .no)) (fun d=>by kernel_rfl)
theorem An:FOk Tryz.prog 29 rI:=fok (V:=⟨tt,[(74,tl)],[],10,[]⟩) al ⟨Bl,trivial⟩ mixed Tryz.func29 rfl rfl (enters_of Tryz.func29 (by kernel_rfl) rfl) rfl (Nat.le_of_ble_eq_true rfl) rfl .no (fun d=>by kernel_rfl)
theorem Lj:FOk Tryz.prog 57 Ci:=fok (V:=⟨tt,[],[],15,[]⟩) al trivial mixed Tryz.func57 rfl rfl (enters_of Tryz.func57 (by kernel_rfl) rfl) rfl (Nat.le_of_ble_eq_true rfl) rfl .no (fun d=>by kernel_rfl)
theorem H1:FOk Tryz.prog 14 zU:=fok (V:=⟨tt,[(57,Ci)],[],27,[]⟩) al ⟨Lj,trivial⟩ mixed Tryz.func14 rfl rfl (enters_of Tryz.func14 (by kernel_rfl) rfl) rfl (Nat.le_of_ble_eq_true rfl) rfl (.two .no (.two .no (.two (.two .no (.loop [.slot 5 (.num .i64)] .no)) .no))) (fun d=>by kernel_rfl)
theorem H2:FOk Tryz.prog 72 zV:=fok (V:=⟨tt,[(14,zU)],[],17,[]⟩) al ⟨H1,trivial⟩ mixed Tryz.func72 rfl rfl (enters_of Tryz.func72 (by kernel_rfl) rfl) rfl (Nat.le_of_ble_eq_true rfl) rfl .no (fun d=>by kernel_rfl)
theorem DA:FOk Tryz.prog 26 vm:=fok (V:=⟨tt,[(72,zV)],[],21,[]⟩) al ⟨H2,trivial⟩ mixed Tryz.func26 rfl rfl (enters_of Tryz.func26 (by kernel_rfl) rfl) rfl (Nat.le_of_ble_eq_true rfl) rfl .no (fun d=>by kernel_rfl)
theorem Bm:FOk Tryz.prog 38 tm:=fok (V:=⟨tt,[(26,vm)],[],27,[]⟩) al ⟨DA,trivial⟩ mixed Tryz.func38 rfl rfl (enters_of Tryz.func38 (by kernel_rfl) rfl) rfl (Nat.le_of_ble_eq_true rfl) rfl (.two .no (.two .no (.two (.two .no (.loop [.slot 5 (.num .i64)] .no)) .no))) (fun d=>by kernel_rfl)
theorem mW:FOk Tryz.prog 92 lS:=fok (V:=⟨tt,[],[],15,[]⟩) al trivial mixed Tryz.func92 rfl rfl (enters_of Tryz.func92 (by kernel_rfl) rfl) rfl (Nat.le_of_ble_eq_true rfl) rfl .no (fun d=>by kernel_rfl)
theorem Lk:FOk Tryz.prog 93 Cj:=fok (V:=⟨tt,[(92,lS)],[],30,[]⟩) al ⟨mW,trivial⟩ mixed Tryz.func93 rfl rfl (enters_of Tryz.func93 (by kernel_rfl) rfl) rfl (Nat.le_of_ble_eq_true rfl) rfl .no (fun d=>by kernel_rfl)
theorem mz:FOk Tryz.prog 48 jf:=fok (V:=⟨tt,[(92,lS),(93,Cj)],[],64,[]⟩) al ⟨mW,Lk,trivial⟩ mixed Tryz.func48 rfl rfl (enters_of Tryz.func48 (by kernel_rfl) rfl) rfl (Nat.le_of_ble_eq_true rfl) rfl (.two .no (.two (.two .no (.loop [.slot 3 (.num .i64)] .no)) (.two (.two .no (.loop [.slot 4 (.num .i64)] .no)) .no))) (fun d=>by kernel_rfl)
theorem Ao:FOk Tryz.prog 150 vn:=fok (V:=⟨tt,[],[],46,[]⟩) al trivial mixed Tryz.func150 rfl rfl (enters_of Tryz.func150 (by kernel_rfl) rfl) rfl (Nat.le_of_ble_eq_true rfl) rfl (.two .no (.two (.two .no (.loop [.slot 5 (.num .i64)] .no)) .no)) (fun d=>by kernel_rfl)
theorem ku:FOk Tryz.prog 112 ga:=fok (V:=⟨tt,[(48,jf),(92,lS),(150,vn)],[],47,[]⟩) al ⟨mz,mW,Ao,trivial⟩ mixed Tryz.func112 rfl rfl (enters_of Tryz.func112 (by kernel_rfl) rfl) rfl (Nat.le_of_ble_eq_true rfl) rfl (.two .no (.two (.two .no (.loop [.slot 3 (.num .i64)] .no)) .no)) (fun d=>by kernel_rfl)
end R
namespace R
open Go.RowKit
open D
theorem pz:FOk Tryz.prog 77 k7:=fok (V:=⟨tt,[(112,ga)],[],13,[]⟩) al ⟨ku,trivial⟩ mixed Tryz.func77 rfl rfl (enters_of Tryz.func77 (by kernel_rfl) rfl) rfl (Nat.le_of_ble_eq_true rfl) rfl .no (fun d=>by kernel_rfl)
theorem vB:FOk Tryz.prog 89 qm:=fok (V:=⟨tt,[],[],22,[]⟩) al trivial mixed Tryz.func89 rfl rfl (enters_of Tryz.func89 (by kernel_rfl) rfl) rfl (Nat.le_of_ble_eq_true rfl) rfl (.two .no (.two (.two .no (.loop [.slot 5 (.num .i64)] .no)) .no)) (fun d=>by kernel_rfl)
theorem FY:FOk Tryz.prog 307 xx:=fok (V:=⟨tt,[(92,lS)],[],5,[]⟩) al ⟨mW,trivial⟩ mixed Tryz.func307 rfl rfl (enters_of Tryz.func307 (by kernel_rfl) rfl) rfl (Nat.le_of_ble_eq_true rfl) rfl .no (fun d=>by kernel_rfl)
theorem Ap:FOk Tryz.prog 296 uc:=fok (V:=⟨tt,[(92,lS),(307,xx)],[],87,[]⟩) al ⟨mW,FY,trivial⟩ mixed Tryz.func296 rfl rfl (enters_of Tryz.func296 (by kernel_rfl) rfl) rfl (Nat.le_of_ble_eq_true rfl) rfl (.two .no (.two (.two .no (.join [.slot 5 .boo] .no (.two .no (.two .no (.two .no (.join [.slot 37 .boo] .no .no)))))) .no)) (fun d=>by kernel_rfl)
theorem Ll:FOk Tryz.prog 293 Ck:=fok (V:=⟨tt,[(296,uc)],[],32,[]⟩) al ⟨Ap,trivial⟩ mixed Tryz.func293 rfl rfl (enters_of Tryz.func293 (by kernel_rfl) rfl) rfl (Nat.le_of_ble_eq_true rfl) rfl (.two .no (.two .no (.two (.two .no (.loop [.slot 3 (.num .i64),.slot 4 (.num .i64)] .no)) .no))) (fun d=>by kernel_rfl)
theorem Aq:FOk Tryz.prog 257 rJ:=fok (V:=⟨tt,[(293,Ck)],[],11,[]⟩) al ⟨Ll,trivial⟩ mixed Tryz.func257 rfl rfl (enters_of Tryz.func257 (by kernel_rfl) rfl) rfl (Nat.le_of_ble_eq_true rfl) rfl .no (fun d=>by kernel_rfl)
theorem uh:FOk Tryz.prog 260 qn:=fok (V:=⟨tt,[(296,uc)],[],20,[]⟩) al ⟨Ap,trivial⟩ mixed Tryz.func260 rfl rfl (enters_of Tryz.func260 (by kernel_rfl) rfl) rfl (Nat.le_of_ble_eq_true rfl) rfl (.two .no (.two .no (.two .no (.two (.loop [.slot 3 (.num .i64),.slot 4 (.num .i64)] .no) .no)))) (fun d=>by kernel_rfl)
theorem Ar: ∀n,FOk Tryz.prog 258 (qo n)
 | 0=>jU (f:=qo 0) (enters_of Tryz.func258 (by kernel_rfl) rfl) rfl (fun d=>rfl)
 | n+1=>by
  have ih:=Ar n
  exact fok (V:=⟨tt,[(258,(qo n)),(260,qn)],[],54,[]⟩) al ⟨ih,uh,trivial⟩ mixed Tryz.func258 rfl rfl (enters_of Tryz.func258 (by kernel_rfl) rfl) rfl (Nat.le_of_ble_eq_true rfl) rfl (.two .no (.two .no (.two .no (.two (.two .no (.two (.two .no (.at [.slot 15 .boo] .no)) .no)) .no)))) (fun d=>by kernel_rfl)
theorem Cy:FOk Tryz.prog 168 wI:=fok (V:=⟨tt,[],[],7,[]⟩) al trivial mixed Tryz.func168 rfl rfl (enters_of Tryz.func168 (by kernel_rfl) rfl) rfl (Nat.le_of_ble_eq_true rfl) rfl .no (fun d=>by kernel_rfl)
theorem Cz:FOk Tryz.prog 294 wJ:=fok (V:=⟨tt,[(168,wI)],[],24,[]⟩) al ⟨Cy,trivial⟩ mixed Tryz.func294 rfl rfl (enters_of Tryz.func294 (by kernel_rfl) rfl) rfl (Nat.le_of_ble_eq_true rfl) rfl .no (fun d=>by kernel_rfl)
theorem Lm:FOk Tryz.prog 306 Cl:=fok (V:=⟨tt,[],[],7,[]⟩) al trivial mixed Tryz.func306 rfl rfl (enters_of Tryz.func306 (by kernel_rfl) rfl) rfl (Nat.le_of_ble_eq_true rfl) rfl .no (fun d=>by kernel_rfl)
theorem xG: ∀n,FOk Tryz.prog 295 (oz n)
 | 0=>jU (f:=oz 0) (enters_of Tryz.func295 (by kernel_rfl) rfl) rfl (fun d=>rfl)
 | n+1=>by
  have ih:=xG n
  exact fok (V:=⟨tt,[(294,wJ),(295,(oz n)),(306,Cl)],[],28,[]⟩) al ⟨Cz,ih,Lm,trivial⟩ mixed Tryz.func295 rfl rfl (enters_of Tryz.func295 (by kernel_rfl) rfl) rfl (Nat.le_of_ble_eq_true rfl) rfl .no (fun d=>by kernel_rfl)
theorem vC: ∀n,FOk Tryz.prog 259 (mV n)
 | 0=>jU (f:=mV 0) (enters_of Tryz.func259 (by kernel_rfl) rfl) rfl (fun d=>rfl)
 | n+1=>by
  have ih:=vC n
  exact fok (V:=⟨tt,[(259,(mV n)),(260,qn),(294,wJ),(295,(oz fL))],[],56,[]⟩) al ⟨ih,uh,Cz,(xG fL),trivial⟩ mixed Tryz.func259 rfl rfl (enters_of Tryz.func259 (by kernel_rfl) rfl) rfl (Nat.le_of_ble_eq_true rfl) rfl (.two .no (.two .no (.two .no (.two (.two .no (.two (.two .no (.at [.slot 15 .boo] .no)) .no)) .no)))) (fun d=>by kernel_rfl)
theorem Bn:FOk Tryz.prog 225 tn:=fok (V:=⟨tt,[(257,rJ),(258,(qo fL)),(259,(mV fL))],[],24,[]⟩) al ⟨Aq,(Ar fL),(vC fL),trivial⟩ mixed Tryz.func225 rfl rfl (enters_of Tryz.func225 (by kernel_rfl) rfl) rfl (Nat.le_of_ble_eq_true rfl) rfl .no (fun d=>by kernel_rfl)
theorem H3:FOk Tryz.prog 261 zW:=fok (V:=⟨tt,[],[],36,[]⟩) al trivial mixed Tryz.func261 rfl rfl (enters_of Tryz.func261 (by kernel_rfl) rfl) rfl (Nat.le_of_ble_eq_true rfl) rfl (.two .no (.loop [.slot 6 (.num .i64),.par 3 [3] 3 y3] (.two .no (.two (.at [.par 3 [3] 3 y3] .no) .no)))) (fun d=>by kernel_rfl)
theorem xH: ∀n,FOk Tryz.prog 226 (oA n)
 | 0=>jU (f:=oA 0) (enters_of Tryz.func226 (by kernel_rfl) rfl) rfl (fun d=>rfl)
 | n+1=>by
  have ih:=xH n
  exact fok (V:=⟨tt,[(226,(oA n)),(260,qn),(261,zW)],[],163,[]⟩) al ⟨ih,uh,H3,trivial⟩ mixed Tryz.func226 rfl rfl (enters_of Tryz.func226 (by kernel_rfl) rfl) rfl (Nat.le_of_ble_eq_true rfl) rfl (.two .no (.two .no (.two .no (.two (.two .no (.two .no (.two .no (.two .no (.two .no (.two .no (.two (.two .no (.two .no (.two .no (.two .no (.two .no (.two (.two .no (.at [.box 11 [.boo,(.num .i64),(.num .i64)]] .no)) (.two (.two .no (.at [.box 11 [.boo,(.num .i64),(.num .i64)]] .no)) .no))))))) .no))))))) .no)))) (fun d=>by kernel_rfl)
theorem vD:FOk Tryz.prog 199 oB:=fok (V:=⟨tt,[(225,tn),(226,(oA fL))],[],51,[]⟩) al ⟨Bn,(xH fL),trivial⟩ mixed Tryz.func199 rfl rfl (enters_of Tryz.func199 (by kernel_rfl) rfl) rfl (Nat.le_of_ble_eq_true rfl) rfl (.two .no (.two .no (.two .no (.two .no (.two (.two .no (.loop [.slot 6 (.num .i64),.slot 7 (.num .i64)] (.two .no (.two (.at [.slot 6 (.num .i64)] .no) .no)))) .no))))) (fun d=>by kernel_rfl)
end R
namespace R
open Go.RowKit
open D
theorem FZ:FOk Tryz.prog 227 xy:=fok (V:=⟨tt,[],[],63,[]⟩) al trivial mixed Tryz.func227 rfl rfl (enters_of Tryz.func227 (by kernel_rfl) rfl) rfl (Nat.le_of_ble_eq_true rfl) rfl (.two .no (.two .no (.join [.slot 7 (.num .i64)] .no (.two (.two .no (.loop [.slot 7 (.num .i64),.slot 8 (.num .i64)] (.two .no (.join [.slot 7 (.num .i64)] .no .no)))) (.two .no (.two (.two .no (.loop [.slot 9 (.num .i64),.slot 10 (.num .i64)] (.two .no (.join [.slot 9 (.num .i64)] .no .no)))) .no)))))) (fun d=>by kernel_rfl)
theorem As:FOk Tryz.prog 228 ud:=fok (V:=⟨tt,[],[],19,[]⟩) al trivial mixed Tryz.func228 rfl rfl (enters_of Tryz.func228 (by kernel_rfl) rfl) rfl (Nat.le_of_ble_eq_true rfl) rfl (.two .no (.two (.two .no (.loop [.slot 5 (.num .i64)] .no)) .no)) (fun d=>by kernel_rfl)
theorem Bo:FOk Tryz.prog 229 tp:=fok (V:=⟨tt,[],[],20,[]⟩) al trivial mixed Tryz.func229 rfl rfl (enters_of Tryz.func229 (by kernel_rfl) rfl) rfl (Nat.le_of_ble_eq_true rfl) rfl .no (fun d=>by kernel_rfl)
theorem Bp:FOk Tryz.prog 200 tq:=fok (V:=⟨tt,[(227,xy),(228,ud),(229,tp)],[],73,[]⟩) al ⟨FZ,As,Bo,trivial⟩ mixed Tryz.func200 rfl rfl (enters_of Tryz.func200 (by kernel_rfl) rfl) rfl (Nat.le_of_ble_eq_true rfl) rfl (.two .no (.two .no (.two .no (.two (.two .no (.loop [.slot 7 (.own 3 y3),.slot 8 (.num .i64),.box 6 [(.num .i64),(.own 4 y4),(.own 26 y26)]] (.two .no (.two (.two .no (.two (.two .no (.loop [.slot 7 (.own 3 y3),.slot 9 (.own 3 y3),.slot 10 (.num .i64)] (.two .no (.two (.two .no (.two .no (.join [.slot 7 (.own 3 y3),.slot 12 (.num .i64)] .no .no))) .no)))) .no)) .no)))) .no)))) (fun d=>by kernel_rfl)
theorem Bq:FOk Tryz.prog 262 tu:=fok (V:=⟨tt,[],[],15,[]⟩) al trivial mixed Tryz.func262 rfl rfl (enters_of Tryz.func262 (by kernel_rfl) rfl) rfl (Nat.le_of_ble_eq_true rfl) rfl (.two .no (.two .no (.two (.two .no (.loop [.slot 1 (.own 3 y3),.slot 2 (.num .i64)] .no)) .no))) (fun d=>by kernel_rfl)
theorem DB:FOk Tryz.prog 230 vo:=fok (V:=⟨tt,[(228,ud),(262,tu)],[],107,[]⟩) al ⟨As,Bq,trivial⟩ mixed Tryz.func230 rfl rfl (enters_of Tryz.func230 (by kernel_rfl) rfl) rfl (Nat.le_of_ble_eq_true rfl) rfl (.two .no (.two .no (.two .no (.two .no (.two .no (.two (.two .no (.loop [.slot 8 (.own 3 y3),.slot 9 (.own 3 y3),.slot 10 (.num .i64),.box 7 [(.num .i64),(.own 4 y4),(.own 26 y26)]] (.two .no (.two (.two .no (.two (.two .no (.loop [.slot 8 (.own 3 y3),.slot 9 (.own 3 y3),.slot 11 (.own 3 y3),.slot 12 (.num .i64)] (.two .no (.two (.two .no (.two .no (.join [.slot 8 (.own 3 y3),.slot 9 (.own 3 y3),.slot 14 (.num .i64)] .no .no))) .no)))) .no)) .no)))) .no)))))) (fun d=>by kernel_rfl)
theorem Au:FOk Tryz.prog 232 ue:=fok (V:=⟨tt,[],[],55,[]⟩) al trivial mixed Tryz.func232 rfl rfl (enters_of Tryz.func232 (by kernel_rfl) rfl) rfl (Nat.le_of_ble_eq_true rfl) rfl (.two .no (.two .no (.two (.two .no (.loop [.row 3 4 y4,.slot 4 (.num .i64)] (.two .no (.two (.two .no (.loop [.row 3 4 y4,.slot 5 (.num .i64)] (.two .no (.two (.two .no (.loop [.row 3 4 y4,.slot 6 (.num .i64)] (.two .no (.join [.row 3 4 y4] .no .no)))) .no)))) .no)))) .no))) (fun d=>by kernel_rfl)
theorem Ln:FOk Tryz.prog 263 Cm:=fok (V:=⟨tt,[],[],40,[]⟩) al trivial mixed Tryz.func263 rfl rfl (enters_of Tryz.func263 (by kernel_rfl) rfl) rfl (Nat.le_of_ble_eq_true rfl) rfl (.two .no (.two .no (.two (.two .no (.loop [.slot 7 (.own 3 y3),.slot 8 (.num .i64)] (.two .no (.join [.slot 7 (.own 3 y3)] .no .no)))) .no))) (fun d=>by kernel_rfl)
theorem Br:FOk Tryz.prog 231 tv:=fok (V:=⟨tt,[(150,vn),(232,ue),(263,Cm)],[],99,[]⟩) al ⟨Ao,Au,Ln,trivial⟩ mixed Tryz.func231 rfl rfl (enters_of Tryz.func231 (by kernel_rfl) rfl) rfl (Nat.le_of_ble_eq_true rfl) rfl (.two .no (.two .no (.two .no (.two (.two .no (.loop [.slot 4 (.own 3 y3),.slot 5 (.num .i64)] (.two .no (.two (.two .no (.two (.two .no (.at [.slot 6 (.num .i64)] .no)) (.two (.two .no (.at [.slot 6 (.num .i64)] .no)) .no))) .no)))) (.two (.two .no (.loop [.slot 4 (.own 3 y3),.slot 7 (.num .i64)] (.two .no (.two (.two .no (.two .no (.two (.two .no (.loop [.slot 8 (.own 26 y26),.slot 9 (.own 3 y3),.slot 10 (.num .i64)] (.two .no (.two (.at [.slot 8 (.own 26 y26),.slot 9 (.own 3 y3)] (.two .no (.two .no (.two .no (.two (.two .no (.loop [.slot 12 (.num .i64),.slot 13 (.num .i64)] (.two .no (.two (.at [.slot 12 (.num .i64)] .no) .no)))) (.two (.two .no (.at [.slot 8 (.own 26 y26),.slot 12 (.num .i64),.gone 11] .no)) .no)))))) .no)))) .no))) .no)))) .no))))) (fun d=>by kernel_rfl)
theorem Av:FOk Tryz.prog 201 rK:=fok (V:=⟨tt,[(230,vo),(231,tv),(232,ue)],[],9,[]⟩) al ⟨DB,Br,Au,trivial⟩ mixed Tryz.func201 rfl rfl (enters_of Tryz.func201 (by kernel_rfl) rfl) rfl (Nat.le_of_ble_eq_true rfl) rfl .no (fun d=>by kernel_rfl)
theorem Aw:FOk Tryz.prog 166 rL:=fok (V:=⟨tt,[(199,oB),(200,tq),(201,rK)],[],33,[]⟩) al ⟨vD,Bp,Av,trivial⟩ mixed Tryz.func166 rfl rfl (enters_of Tryz.func166 (by kernel_rfl) rfl) rfl (Nat.le_of_ble_eq_true rfl) rfl .no (fun d=>by kernel_rfl)
theorem pA:FOk Tryz.prog 169 k8:=fok (V:=⟨tt,[(150,vn)],[],67,[]⟩) al ⟨Ao,trivial⟩ mixed Tryz.func169 rfl rfl (enters_of Tryz.func169 (by kernel_rfl) rfl) rfl (Nat.le_of_ble_eq_true rfl) rfl (.two .no (.two .no (.two (.two .no (.loop [.slot 5 (.num .i64)] .no)) (.two (.two .no (.loop [.slot 6 (.num .i64)] .no)) .no)))) (fun d=>by kernel_rfl)
theorem F0:FOk Tryz.prog 167 xz:=fok (V:=⟨tt,[(169,k8)],[],19,[]⟩) al ⟨pA,trivial⟩ mixed Tryz.func167 rfl rfl (enters_of Tryz.func167 (by kernel_rfl) rfl) rfl (Nat.le_of_ble_eq_true rfl) rfl (.two .no (.two (.two .no (.loop [.slot 5 (.num .i64)] .no)) .no)) (fun d=>by kernel_rfl)
theorem F5:FOk Tryz.prog 129 xA:=fok (V:=⟨tt,[(92,lS),(166,rL),(167,xz),(168,wI)],[],94,[]⟩) al ⟨mW,Aw,F0,Cy,trivial⟩ mixed Tryz.func129 rfl rfl (enters_of Tryz.func129 (by kernel_rfl) rfl) rfl (Nat.le_of_ble_eq_true rfl) rfl (.two .no (.two .no (.two .no (.two (.two .no (.loop [.slot 5 (.num .i64),.box 4 [(.own 92 y92),(.own 146 FK)]] (.two .no (.two (.two .no (.two .no (.two .no (.join [.slot 8 (.num .i64),.box 4 [(.own 92 y92),(.own 146 FK)],.gone 6] .no .no)))) .no)))) .no)))) (fun d=>by kernel_rfl)
theorem Bs:FOk Tryz.prog 170 tw:=fok (V:=⟨tt,[],[],31,[]⟩) al trivial mixed Tryz.func170 rfl rfl (enters_of Tryz.func170 (by kernel_rfl) rfl) rfl (Nat.le_of_ble_eq_true rfl) rfl (.two .no (.two .no (.two (.two .no (.loop [.slot 5 (.num .i64)] .no)) .no))) (fun d=>by kernel_rfl)
theorem ui:FOk Tryz.prog 130 nL:=fok (V:=⟨tt,[(169,k8),(170,tw)],[],93,[]⟩) al ⟨pA,Bs,trivial⟩ mixed Tryz.func130 rfl rfl (enters_of Tryz.func130 (by kernel_rfl) rfl) rfl (Nat.le_of_ble_eq_true rfl) rfl (.two .no (.two .no (.two (.two .no (.loop [.slot 5 (.num .i64)] .no)) (.two (.two .no (.loop [.slot 6 (.num .i64)] .no)) .no)))) (fun d=>by kernel_rfl)
theorem nT:FOk Tryz.prog 90 jq:=fok (V:=⟨tt,[(129,xA),(130,nL)],[],17,[]⟩) al ⟨F5,ui,trivial⟩ mixed Tryz.func90 rfl rfl (enters_of Tryz.func90 (by kernel_rfl) rfl) rfl (Nat.le_of_ble_eq_true rfl) rfl .no (fun d=>by kernel_rfl)
end R
namespace R
open Go.RowKit
open D
theorem H4:FOk Tryz.prog 67 zX:=fok (V:=⟨tt,[(77,k7),(89,qm),(90,jq),(112,ga)],[],32,[]⟩) al ⟨pz,vB,nT,ku,trivial⟩ mixed Tryz.func67 rfl rfl (enters_of Tryz.func67 (by kernel_rfl) rfl) rfl (Nat.le_of_ble_eq_true rfl) rfl .no (fun d=>by kernel_rfl)
theorem H5:FOk Tryz.prog 91 zY:=fok (V:=⟨tt,[],[],32,[]⟩) al trivial mixed Tryz.func91 rfl rfl (enters_of Tryz.func91 (by kernel_rfl) rfl) rfl (Nat.le_of_ble_eq_true rfl) rfl (.two .no (.two .no (.two (.two .no (.loop [.slot 4 (.num .i64),.box 3 [(.num .i64),(.own 4 y4),(.own 26 y26)]] .no)) .no))) (fun d=>by kernel_rfl)
theorem vE:FOk Tryz.prog 47 oC:=fok (V:=⟨tt,[(89,qm),(90,jq),(91,zY)],[],29,[]⟩) al ⟨vB,nT,H5,trivial⟩ mixed Tryz.func47 rfl rfl (enters_of Tryz.func47 (by kernel_rfl) rfl) rfl (Nat.le_of_ble_eq_true rfl) rfl .no (fun d=>by kernel_rfl)
theorem H6:FOk Tryz.prog 171 zZ:=fok (V:=⟨tt,[(92,lS)],[],50,[]⟩) al ⟨mW,trivial⟩ mixed Tryz.func171 rfl rfl (enters_of Tryz.func171 (by kernel_rfl) rfl) rfl (Nat.le_of_ble_eq_true rfl) rfl (.two .no (.two .no (.two .no (.two (.two .no (.loop [.slot 4 (.num .i64)] (.two .no (.two (.two .no (.two .no (.loop [.slot 5 (.num .i64)] .no))) .no)))) .no)))) (fun d=>by kernel_rfl)
theorem sX:FOk Tryz.prog 131 mD:=fok (V:=⟨tt,[(171,zZ)],[],11,[]⟩) al ⟨H6,trivial⟩ mixed Tryz.func131 rfl rfl (enters_of Tryz.func131 (by kernel_rfl) rfl) rfl (Nat.le_of_ble_eq_true rfl) rfl .no (fun d=>by kernel_rfl)
theorem H7:FOk Tryz.prog 94 Aa:=fok (V:=⟨tt,[(48,jf),(92,lS),(131,mD)],[],31,[]⟩) al ⟨mz,mW,sX,trivial⟩ mixed Tryz.func94 rfl rfl (enters_of Tryz.func94 (by kernel_rfl) rfl) rfl (Nat.le_of_ble_eq_true rfl) rfl .no (fun d=>by kernel_rfl)
theorem tG:FOk Tryz.prog 173 oR:=fok (V:=⟨tt,[],[],31,[]⟩) al trivial mixed Tryz.func173 rfl rfl (enters_of Tryz.func173 (by kernel_rfl) rfl) rfl (Nat.le_of_ble_eq_true rfl) rfl (.two .no (.two .no (.two (.loop [.slot 1 (.num .i64),.slot 7 (.num .i64)] .no) .no))) (fun d=>by kernel_rfl)
theorem Lo:FOk Tryz.prog 202 Cn:=fok (V:=⟨tt,[],[],52,[]⟩) al trivial mixed Tryz.func202 rfl rfl (enters_of Tryz.func202 (by kernel_rfl) rfl) rfl (Nat.le_of_ble_eq_true rfl) rfl (.two .no (.two .no (.two (.two .no (.loop [.slot 5 (.own 203 U7),.slot 6 (.num .i64)] (.two .no (.join [.slot 5 (.own 203 U7)] (.join [.slot 5 (.own 203 U7)] .no .no) .no)))) .no))) (fun d=>by kernel_rfl)
theorem DC:FOk Tryz.prog 203 vp:=fok (V:=⟨tt,[],[],22,[]⟩) al trivial mixed Tryz.func203 rfl rfl (enters_of Tryz.func203 (by kernel_rfl) rfl) rfl (Nat.le_of_ble_eq_true rfl) rfl (.two .no (.two (.two .no (.loop [.slot 5 (.num .i64)] .no)) .no)) (fun d=>by kernel_rfl)
theorem DD:FOk Tryz.prog 204 vq:=fok (V:=⟨tt,[],[],13,[]⟩) al trivial mixed Tryz.func204 rfl rfl (enters_of Tryz.func204 (by kernel_rfl) rfl) rfl (Nat.le_of_ble_eq_true rfl) rfl .no (fun d=>by kernel_rfl)
theorem Oa:FOk Tryz.prog 205 FL:=fok (V:=⟨tt,[],[],10,[]⟩) al trivial mixed Tryz.func205 rfl rfl (enters_of Tryz.func205 (by kernel_rfl) rfl) rfl (Nat.le_of_ble_eq_true rfl) rfl .no (fun d=>by kernel_rfl)
theorem F6:FOk Tryz.prog 172 xB:=fok (V:=⟨tt,[(173,oR),(202,Cn),(203,vp),(204,vq),(205,FL)],[],110,[]⟩) al ⟨tG,Lo,DC,DD,Oa,trivial⟩ mixed Tryz.func172 rfl rfl (enters_of Tryz.func172 (by kernel_rfl) rfl) rfl (Nat.le_of_ble_eq_true rfl) rfl (.two .no (.two .no (.two .no (.two .no (.two (.two .no (.loop [.slot 9 (.own 205 WQ),.slot 12 (.num .i64)] (.two .no (.two (.two .no (.two .no (.two (.two .no (.loop [.slot 14 (.num .i64),.slot 15 (.num .i64)] (.two .no (.join [.slot 14 (.num .i64)] .no .no)))) (.two .no (.loop [.slot 9 (.own 205 WQ),.slot 17 (.num .i64)] (.two .no (.join [.slot 9 (.own 205 WQ)] .no .no))))))) .no)))) .no))))) (fun d=>by kernel_rfl)
theorem F7:FOk Tryz.prog 132 xC:=fok (V:=⟨tt,[(172,xB)],[],104,[]⟩) al ⟨F6,trivial⟩ mixed Tryz.func132 rfl rfl (enters_of Tryz.func132 (by kernel_rfl) rfl) rfl (Nat.le_of_ble_eq_true rfl) rfl (.two .no (.two .no (.two .no (.two (.two .no (.loop [.slot 8 (.own 3 y3),.slot 9 (.num .i64)] .no)) (.two .no (.two .no (.two (.two .no (.loop [.row 8 3 y3,.slot 10 (.own 3 y3),.slot 11 (.num .i64)] (.two .no (.two (.two .no (.two .no (.loop [.row 8 3 y3,.slot 10 (.own 3 y3),.slot 13 (.num .i64)] (.two .no (.join [.row 8 3 y3,.slot 10 (.own 3 y3)] .no .no))))) .no)))) .no))))))) (fun d=>by kernel_rfl)
theorem Bt:FOk Tryz.prog 133 tx:=fok (V:=⟨tt,[(173,oR)],[],38,[]⟩) al ⟨tG,trivial⟩ mixed Tryz.func133 rfl rfl (enters_of Tryz.func133 (by kernel_rfl) rfl) rfl (Nat.le_of_ble_eq_true rfl) rfl (.two .no (.two .no (.two (.two .no (.loop [.slot 10 (.num .i64)] .no)) .no))) (fun d=>by kernel_rfl)
theorem Ob:FOk Tryz.prog 134 FM:=fok (V:=⟨tt,[],[],20,[]⟩) al trivial mixed Tryz.func134 rfl rfl (enters_of Tryz.func134 (by kernel_rfl) rfl) rfl (Nat.le_of_ble_eq_true rfl) rfl (.two .no (.two .no (.two (.two .no (.loop [.slot 3 (.own 3 y3),.slot 4 (.num .i64)] (.two .no (.join [.slot 3 (.own 3 y3)] .no .no)))) .no))) (fun d=>by kernel_rfl)
theorem H8:FOk Tryz.prog 95 Ab:=fok (V:=⟨tt,[(132,xC),(133,tx),(134,FM)],[],48,[]⟩) al ⟨F7,Bt,Ob,trivial⟩ mixed Tryz.func95 rfl rfl (enters_of Tryz.func95 (by kernel_rfl) rfl) rfl (Nat.le_of_ble_eq_true rfl) rfl (.two .no (.two .no (.two .no (.two .no (.two (.two .no (.loop [.slot 9 (.num .i64),.slot 10 (.num .i64)] (.two .no (.join [.slot 9 (.num .i64)] .no .no)))) .no))))) (fun d=>by kernel_rfl)
theorem Bu:FOk Tryz.prog 49 tz:=fok (V:=⟨tt,[(94,Aa),(95,Ab)],[],42,[]⟩) al ⟨H7,H8,trivial⟩ mixed Tryz.func49 rfl rfl (enters_of Tryz.func49 (by kernel_rfl) rfl) rfl (Nat.le_of_ble_eq_true rfl) rfl (.two .no (.two .no (.two (.two .no (.loop [.slot 5 (.own 103 sP),.slot 6 (.num .i64)] (.two .no (.two (.two .no (.two .no (.loop [.slot 5 (.own 103 sP),.slot 8 (.num .i64)] .no))) .no)))) .no))) (fun d=>by kernel_rfl)
end R
namespace R
open Go.RowKit
open D
theorem xY:FOk Tryz.prog 10 qL:=fok (V:=⟨tt,[(47,oC),(48,jf),(49,tz)],[],27,[]⟩) al ⟨vE,mz,Bu,trivial⟩ mixed Tryz.func10 rfl rfl (enters_of Tryz.func10 (by kernel_rfl) rfl) rfl (Nat.le_of_ble_eq_true rfl) rfl .no (fun d=>by kernel_rfl)
theorem Lp:FOk Tryz.prog 117 Co:=fok (V:=⟨tt,[],[],12,[]⟩) al trivial mixed Tryz.func117 rfl rfl (enters_of Tryz.func117 (by kernel_rfl) rfl) rfl (Nat.le_of_ble_eq_true rfl) rfl .no (fun d=>by kernel_rfl)
theorem H9:FOk Tryz.prog 80 Ac:=fok (V:=⟨tt,[(77,k7),(92,lS),(112,ga),(117,Co)],[],28,[]⟩) al ⟨pz,mW,ku,Lp,trivial⟩ mixed Tryz.func80 rfl rfl (enters_of Tryz.func80 (by kernel_rfl) rfl) rfl (Nat.le_of_ble_eq_true rfl) rfl .no (fun d=>by kernel_rfl)
theorem Lq:FOk Tryz.prog 157 Cp:=fok (V:=⟨tt,[],[],18,[]⟩) al trivial mixed Tryz.func157 rfl rfl (enters_of Tryz.func157 (by kernel_rfl) rfl) rfl (Nat.le_of_ble_eq_true rfl) rfl (.two .no (.two (.two .no (.loop [.slot 5 (.num .i64)] .no)) .no)) (fun d=>by kernel_rfl)
theorem Ia:FOk Tryz.prog 155 Ad:=fok (V:=⟨tt,[],[],24,[]⟩) al trivial mixed Tryz.func155 rfl rfl (enters_of Tryz.func155 (by kernel_rfl) rfl) rfl (Nat.le_of_ble_eq_true rfl) rfl .no (fun d=>by kernel_rfl)
theorem Lr:FOk Tryz.prog 190 Cq:=fok (V:=⟨tt,[(155,Ad)],[(36,.bool)],45,[]⟩) al ⟨Ia,trivial⟩ mixed Tryz.func190 rfl rfl (enters_of Tryz.func190 (by kernel_rfl) rfl) rfl (Nat.le_of_ble_eq_true rfl) rfl (.two .no (.two .no (.two (.loop [.slot 5 (.num .i64)] .no) .no))) (fun d=>by kernel_rfl)
theorem wO:FOk Tryz.prog 151 ph:=fok (V:=⟨tt,[(157,Cp),(190,Cq)],[],28,[]⟩) al ⟨Lq,Lr,trivial⟩ mixed Tryz.func151 rfl rfl (enters_of Tryz.func151 (by kernel_rfl) rfl) rfl (Nat.le_of_ble_eq_true rfl) rfl (.two .no (.two .no (.two (.two .no (.loop [.slot 5 (.own 103 sP),.slot 6 (.num .i64)] (.two .no (.join [.slot 5 (.own 103 sP)] .no .no)))) .no))) (fun d=>by kernel_rfl)
theorem xZ:FOk Tryz.prog 113 qM:=fok (V:=⟨tt,[(151,ph)],[],12,[]⟩) al ⟨wO,trivial⟩ mixed Tryz.func113 rfl rfl (enters_of Tryz.func113 (by kernel_rfl) rfl) rfl (Nat.le_of_ble_eq_true rfl) rfl .no (fun d=>by kernel_rfl)
theorem Bv:FOk Tryz.prog 68 tC:=fok (V:=⟨tt,[(10,qL),(80,Ac),(113,qM)],[],60,[]⟩) al ⟨xY,H9,xZ,trivial⟩ mixed Tryz.func68 rfl rfl (enters_of Tryz.func68 (by kernel_rfl) rfl) rfl (Nat.le_of_ble_eq_true rfl) rfl .no (fun d=>by kernel_rfl)
theorem Ax:FOk Tryz.prog 22 rM:=fok (V:=⟨tt,[(67,zX),(68,tC)],[],33,[]⟩) al ⟨H4,Bv,trivial⟩ mixed Tryz.func22 rfl rfl (enters_of Tryz.func22 (by kernel_rfl) rfl) rfl (Nat.le_of_ble_eq_true rfl) rfl .no (fun d=>by kernel_rfl)
theorem wP:FOk Tryz.prog 39 pj:=fok (V:=⟨tt,[(22,rM)],[],37,[]⟩) al ⟨Ax,trivial⟩ mixed Tryz.func39 rfl rfl (enters_of Tryz.func39 (by kernel_rfl) rfl) rfl (Nat.le_of_ble_eq_true rfl) rfl (.two .no (.two .no (.two (.two .no (.loop [.slot 8 (.own 60 y60),.slot 9 (.num .i64),.box 5 [(.num .i64),(.num .i64),(.num .i64)]] .no)) .no))) (fun d=>by kernel_rfl)
theorem im:FOk Tryz.prog 102 fT:=fok (V:=⟨tt,[],[],15,[]⟩) al trivial mixed Tryz.func102 rfl rfl (enters_of Tryz.func102 (by kernel_rfl) rfl) rfl (Nat.le_of_ble_eq_true rfl) rfl .no (fun d=>by kernel_rfl)
theorem Ls:FOk Tryz.prog 103 Cr:=fok (V:=⟨tt,[(102,fT)],[],27,[]⟩) al ⟨im,trivial⟩ mixed Tryz.func103 rfl rfl (enters_of Tryz.func103 (by kernel_rfl) rfl) rfl (Nat.le_of_ble_eq_true rfl) rfl .no (fun d=>by kernel_rfl)
theorem mA:FOk Tryz.prog 55 jg:=fok (V:=⟨tt,[(102,fT),(103,Cr)],[],59,[]⟩) al ⟨im,Ls,trivial⟩ mixed Tryz.func55 rfl rfl (enters_of Tryz.func55 (by kernel_rfl) rfl) rfl (Nat.le_of_ble_eq_true rfl) rfl (.two .no (.two .no (.two (.two .no (.loop [.slot 14 (.num .i64)] .no)) (.two (.two .no (.loop [.slot 25 (.num .i64)] .no)) .no)))) (fun d=>by kernel_rfl)
theorem dK:FOk Tryz.prog 152 cD:=fok (V:=⟨tt,[],[],26,[]⟩) al trivial mixed Tryz.func152 rfl rfl (enters_of Tryz.func152 (by kernel_rfl) rfl) rfl (Nat.le_of_ble_eq_true rfl) rfl (.two .no (.two .no (.two (.two .no (.loop [.slot 13 (.num .i64)] .no)) .no))) (fun d=>by kernel_rfl)
theorem ky:FOk Tryz.prog 114 gb:=fok (V:=⟨tt,[(55,jg),(102,fT),(152,cD)],[],43,[]⟩) al ⟨mA,im,dK,trivial⟩ mixed Tryz.func114 rfl rfl (enters_of Tryz.func114 (by kernel_rfl) rfl) rfl (Nat.le_of_ble_eq_true rfl) rfl (.two .no (.two .no (.two .no (.two (.two .no (.loop [.slot 24 (.num .i64)] .no)) .no)))) (fun d=>by kernel_rfl)
theorem pB:FOk Tryz.prog 78 k9:=fok (V:=⟨tt,[(114,gb)],[],13,[]⟩) al ⟨ky,trivial⟩ mixed Tryz.func78 rfl rfl (enters_of Tryz.func78 (by kernel_rfl) rfl) rfl (Nat.le_of_ble_eq_true rfl) rfl .no (fun d=>by kernel_rfl)
end R
namespace R
open Go.RowKit
open D
theorem fm:FOk Tryz.prog 138 cq:=fok (V:=⟨tt,[],[],19,[]⟩) al trivial mixed Tryz.func138 rfl rfl (enters_of Tryz.func138 (by kernel_rfl) rfl) rfl (Nat.le_of_ble_eq_true rfl) rfl (.two .no (.two (.two .no (.loop [.slot 8 (.num .i64)] .no)) .no)) (fun d=>by kernel_rfl)
theorem Ay:FOk Tryz.prog 139 rN:=fok (V:=⟨tt,[],[],8,[]⟩) al trivial mixed Tryz.func139 rfl rfl (enters_of Tryz.func139 (by kernel_rfl) rfl) rfl (Nat.le_of_ble_eq_true rfl) rfl .no (fun d=>by kernel_rfl)
theorem vF:FOk Tryz.prog 99 qp:=fok (V:=⟨tt,[(138,cq),(139,rN)],[],9,[]⟩) al ⟨fm,Ay,trivial⟩ mixed Tryz.func99 rfl rfl (enters_of Tryz.func99 (by kernel_rfl) rfl) rfl (Nat.le_of_ble_eq_true rfl) rfl .no (fun d=>by kernel_rfl)
theorem xI:FOk Tryz.prog 244 rO:=fok (V:=⟨tt,[(102,fT)],[],5,[]⟩) al ⟨im,trivial⟩ mixed Tryz.func244 rfl rfl (enters_of Tryz.func244 (by kernel_rfl) rfl) rfl (Nat.le_of_ble_eq_true rfl) rfl .no (fun d=>by kernel_rfl)
theorem Ib:FOk Tryz.prog 269 Ae:=fok (V:=⟨tt,[(102,fT),(244,rO)],[],48,[]⟩) al ⟨im,xI,trivial⟩ mixed Tryz.func269 rfl rfl (enters_of Tryz.func269 (by kernel_rfl) rfl) rfl (Nat.le_of_ble_eq_true rfl) rfl (.two .no (.two (.two .no (.two .no (.two .no (.two .no (.two .no (.join [.slot 37 .boo] .no .no)))))) .no)) (fun d=>by kernel_rfl)
theorem mB:FOk Tryz.prog 270 aZ:=FI (f:=aZ) (jU (f:=⟨aZ.ps,aZ.rs,aZ.m,none⟩) (enters_of Tryz.func270 (by kernel_rfl) rfl) rfl (fun d=>rfl)) (JM (V:=⟨tt,[],[(5,.raw)],8,[]⟩) al trivial mixed Tryz.func270 rfl rfl (enters_of Tryz.func270 (by kernel_rfl) rfl) (Nat.le_of_ble_eq_true rfl) .no (fun E bn xs=>by cases bn <;> kernel_rfl))
theorem wQ:FOk Tryz.prog 235 sR:=fok (V:=⟨tt,[(269,Ae),(270,aZ)],[],56,[(294,263,xo)]⟩) al ⟨Ib,mB,trivial⟩ mixed Tryz.func235 rfl rfl (enters_of Tryz.func235 (by kernel_rfl) rfl) rfl (Nat.le_of_ble_eq_true rfl) rfl (.two .no (.two .no (.two (.two .no (.loop [.slot 3 (.own 263 Yo),.slot 13 (.num .i64)] (.two .no (.two .no (.two (.two .no (.two .no (.two (.two .no (.at [.slot 6 (.num .i64)] (.two (.two .no (.at [.slot 19 .boo] .no)) (.two .no (.two (.two .no (.at [.slot 22 .boo] .no)) .no))))) .no))) .no))))) .no))) (fun d=>by kernel_rfl)
theorem Lt:FOk Tryz.prog 297 Cs:=fok (V:=⟨tt,[(235,sR)],[],6,[(294,263,xo)]⟩) al ⟨wQ,trivial⟩ mixed Tryz.func297 rfl rfl (enters_of Tryz.func297 (by kernel_rfl) rfl) rfl (Nat.le_of_ble_eq_true rfl) rfl .no (fun d=>by kernel_rfl)
theorem Az:FOk Tryz.prog 264 rP:=fok (V:=⟨tt,[(297,Cs)],[],11,[]⟩) al ⟨Lt,trivial⟩ mixed Tryz.func264 rfl rfl (enters_of Tryz.func264 (by kernel_rfl) rfl) rfl (Nat.le_of_ble_eq_true rfl) rfl .no (fun d=>by kernel_rfl)
theorem tH: ∀n,FOk Tryz.prog 265 (lT n)
 | 0=>jU (f:=lT 0) (enters_of Tryz.func265 (by kernel_rfl) rfl) rfl (fun d=>rfl)
 | n+1=>by
  have ih:=tH n
  exact fok (V:=⟨tt,[(265,(lT n))],[],39,[(294,263,xo)]⟩) al ⟨ih,trivial⟩ mixed Tryz.func265 rfl rfl (enters_of Tryz.func265 (by kernel_rfl) rfl) rfl (Nat.le_of_ble_eq_true rfl) rfl (.two .no (.two .no (.two (.two .no (.loop [.slot 3 (.num .i64),.slot 11 (.num .i64)] (.two .no (.two .no (.two (.at [.slot 3 (.num .i64)] .no) .no))))) .no))) (fun d=>by kernel_rfl)
theorem Rr:FOk Tryz.prog 308 JP:=fok (V:=⟨tt,[],[],7,[(294,263,xo)]⟩) al trivial mixed Tryz.func308 rfl rfl (enters_of Tryz.func308 (by kernel_rfl) rfl) rfl (Nat.le_of_ble_eq_true rfl) rfl .no (fun d=>by kernel_rfl)
theorem xJ: ∀n,FOk Tryz.prog 298 (oD n)
 | 0=>jU (f:=oD 0) (enters_of Tryz.func298 (by kernel_rfl) rfl) rfl (fun d=>rfl)
 | n+1=>by
  have ih:=xJ n
  exact fok (V:=⟨tt,[(298,(oD n)),(308,JP)],[],32,[(294,263,xo)]⟩) al ⟨ih,Rr,trivial⟩ mixed Tryz.func298 rfl rfl (enters_of Tryz.func298 (by kernel_rfl) rfl) rfl (Nat.le_of_ble_eq_true rfl) rfl .no (fun d=>by kernel_rfl)
theorem rV: ∀n,FOk Tryz.prog 266 (kt n)
 | 0=>jU (f:=kt 0) (enters_of Tryz.func266 (by kernel_rfl) rfl) rfl (fun d=>rfl)
 | n+1=>by
  have ih:=rV n
  exact fok (V:=⟨tt,[(266,(kt n)),(298,(oD fL))],[(52,t263)],58,[(294,263,xo)]⟩) al ⟨ih,(xJ fL),trivial⟩ mixed Tryz.func266 rfl rfl (enters_of Tryz.func266 (by kernel_rfl) rfl) rfl (Nat.le_of_ble_eq_true rfl) rfl (.two .no (.two .no (.two .no (.two (.two .no (.loop [.slot 41 (.num .i64),.box 3 [(.num .i64),(.num .i64),(.num .i64),(.num .i64),(.own 263 (.tree 294 263 xo))]] .no)) .no)))) (fun d=>by kernel_rfl)
theorem qU: ∀n,FOk Tryz.prog 299 (jh n)
 | 0=>jU (f:=jh 0) (enters_of Tryz.func299 (by kernel_rfl) rfl) rfl (fun d=>rfl)
 | n+1=>by
  have ih:=qU n
  exact fok (V:=⟨tt,[(299,(jh n))],[],32,[(294,263,xo)]⟩) al ⟨ih,trivial⟩ mixed Tryz.func299 rfl rfl (enters_of Tryz.func299 (by kernel_rfl) rfl) rfl (Nat.le_of_ble_eq_true rfl) rfl (.two (.two .no (.loop [.slot 11 (.num .i64),.box 1 [(.own 188 xo)]] .no)) .no) (fun d=>by kernel_rfl)
theorem DE:FOk Tryz.prog 267 vr:=fok (V:=⟨tt,[(299,(jh fL))],[],8,[(294,263,xo)]⟩) al ⟨(qU fL),trivial⟩ mixed Tryz.func267 rfl rfl (enters_of Tryz.func267 (by kernel_rfl) rfl) rfl (Nat.le_of_ble_eq_true rfl) rfl .no (fun d=>by kernel_rfl)
theorem Bw:FOk Tryz.prog 233 tD:=fok (V:=⟨tt,[(235,sR),(264,rP),(265,(lT fL)),(266,(kt fL)),(267,vr)],[],25,[(294,263,xo)]⟩) al ⟨wQ,Az,(tH fL),(rV fL),DE,trivial⟩ mixed Tryz.func233 rfl rfl (enters_of Tryz.func233 (by kernel_rfl) rfl) rfl (Nat.le_of_ble_eq_true rfl) rfl .no (fun d=>by kernel_rfl)
theorem sY:FOk Tryz.prog 268 mE:=fok (V:=⟨tt,[],[],31,[]⟩) al trivial mixed Tryz.func268 rfl rfl (enters_of Tryz.func268 (by kernel_rfl) rfl) rfl (Nat.le_of_ble_eq_true rfl) rfl (.two .no (.loop [.slot 12 (.num .i64),.par 3 [3] 3 y3] (.two .no (.two .no (.two (.at [.par 3 [3] 3 y3] .no) .no))))) (fun d=>by kernel_rfl)
end R
namespace R
open Go.RowKit
open D
theorem nU: ∀n,FOk Tryz.prog 234 (fJ n)
 | 0=>jU (f:=fJ 0) (enters_of Tryz.func234 (by kernel_rfl) rfl) rfl (fun d=>rfl)
 | n+1=>by
  have ih:=nU n
  exact fok (V:=⟨tt,[(234,(fJ n)),(268,mE)],[],163,[(294,263,xo)]⟩) al ⟨ih,sY,trivial⟩ mixed Tryz.func234 rfl rfl (enters_of Tryz.func234 (by kernel_rfl) rfl) rfl (Nat.le_of_ble_eq_true rfl) rfl (.two .no (.two (.two .no (.two .no (.two .no (.two .no (.two .no (.two .no (.two .no (.two .no (.two (.two .no (.two .no (.two .no (.two (.two .no (.at [.box 10 [(.num .i64),(.num .i64),.boo]] .no)) (.two (.two .no (.at [.box 10 [(.num .i64),(.num .i64),.boo]] .no)) .no))))) .no))))))))) .no)) (fun d=>by kernel_rfl)
theorem vG:FOk Tryz.prog 207 oE:=fok (V:=⟨tt,[(233,tD),(234,(fJ fL)),(235,sR)],[],49,[(294,263,xo)]⟩) al ⟨Bw,(nU fL),wQ,trivial⟩ mixed Tryz.func207 rfl rfl (enters_of Tryz.func207 (by kernel_rfl) rfl) rfl (Nat.le_of_ble_eq_true rfl) rfl (.two .no (.two .no (.two .no (.two .no (.two (.two .no (.loop [.slot 6 (.num .i64),.slot 22 (.num .i64)] (.two .no (.two .no (.two (.at [.slot 6 (.num .i64)] .no) .no))))) .no))))) (fun d=>by kernel_rfl)
theorem qV:FOk Tryz.prog 236 my:=fok (V:=⟨tt,[],[],96,[]⟩) al trivial mixed Tryz.func236 rfl rfl (enters_of Tryz.func236 (by kernel_rfl) rfl) rfl (Nat.le_of_ble_eq_true rfl) rfl (.two .no (.two .no (.two .no (.two .no (.two (.two .no (.loop [.slot 10 (.own 3 y3),.slot 11 (.map ⟨3,3,.int,.int⟩),.slot 13 (.num .i64),.box 12 [(.num .i64),(.own 4 y4),(.own 26 y26)]] (.two .no (.two (.two .no (.two (.two .no (.loop [.slot 10 (.own 3 y3),.slot 11 (.map ⟨3,3,.int,.int⟩),.slot 14 (.own 3 y3),.slot 15 (.num .i64)] (.two .no (.join [.slot 10 (.own 3 y3),.slot 11 (.map ⟨3,3,.int,.int⟩),.slot 14 (.own 3 y3)] (.two .no (.two .no (.two .no (.join [.slot 10 (.own 3 y3),.slot 11 (.map ⟨3,3,.int,.int⟩),.slot 18 (.num .i64)] .no .no)))) .no)))) .no)) .no)))) .no))))) (fun d=>by kernel_rfl)
theorem rW:FOk Tryz.prog 237 me:=fok (V:=⟨tt,[],[],20,[]⟩) al trivial mixed Tryz.func237 rfl rfl (enters_of Tryz.func237 (by kernel_rfl) rfl) rfl (Nat.le_of_ble_eq_true rfl) rfl .no (fun d=>by kernel_rfl)
theorem uj:FOk Tryz.prog 239 nM:=fok (V:=⟨tt,[],[],61,[]⟩) al trivial mixed Tryz.func239 rfl rfl (enters_of Tryz.func239 (by kernel_rfl) rfl) rfl (Nat.le_of_ble_eq_true rfl) rfl (.two .no (.two .no (.join [.slot 7 (.num .i64)] .no (.two (.two .no (.loop [.slot 7 (.num .i64),.slot 21 (.num .i64)] (.two .no (.two .no (.join [.slot 7 (.num .i64)] .no .no))))) (.two .no (.two (.two .no (.loop [.slot 10 (.num .i64),.slot 39 (.num .i64)] (.two .no (.two .no (.join [.slot 10 (.num .i64)] .no .no))))) .no)))))) (fun d=>by kernel_rfl)
theorem wR:FOk Tryz.prog 238 pn:=fok (V:=⟨tt,[(239,nM)],[],15,[]⟩) al ⟨uj,trivial⟩ mixed Tryz.func238 rfl rfl (enters_of Tryz.func238 (by kernel_rfl) rfl) rfl (Nat.le_of_ble_eq_true rfl) rfl .no (fun d=>by kernel_rfl)
theorem AA:FOk Tryz.prog 208 rQ:=fok (V:=⟨tt,[(236,my),(237,me),(238,pn)],[],13,[]⟩) al ⟨qV,rW,wR,trivial⟩ mixed Tryz.func208 rfl rfl (enters_of Tryz.func208 (by kernel_rfl) rfl) rfl (Nat.le_of_ble_eq_true rfl) rfl .no (fun d=>by kernel_rfl)
theorem mX:FOk Tryz.prog 309 be:=FI (f:=be) (jU (f:=⟨be.ps,be.rs,be.m,none⟩) (enters_of Tryz.func309 (by kernel_rfl) rfl) rfl (fun d=>rfl)) (JM (V:=⟨tt,[],[(5,.raw)],8,[]⟩) al trivial mixed Tryz.func309 rfl rfl (enters_of Tryz.func309 (by kernel_rfl) rfl) (Nat.le_of_ble_eq_true rfl) .no (fun E bn xs=>by cases bn <;> kernel_rfl))
theorem vH:FOk Tryz.prog 300 oF:=fok (V:=⟨tt,[(309,be)],[],48,[]⟩) al ⟨mX,trivial⟩ mixed Tryz.func300 rfl rfl (enters_of Tryz.func300 (by kernel_rfl) rfl) rfl (Nat.le_of_ble_eq_true rfl) rfl (.two .no (.two .no (.two (.two .no (.loop [.slot 4 .boo,.row 3 4 y4] (.two .no (.two .no (.two .no (.loop [.slot 4 .boo,.slot 16 (.num .i64),.row 3 4 y4] (.two .no (.two .no (.two (.two .no (.two .no (.loop [.slot 4 .boo,.slot 23 (.num .i64),.row 3 4 y4] (.two .no (.two .no (.two (.at [.slot 4 .boo,.row 3 4 y4] .no) .no)))))) .no))))))))) .no))) (fun d=>by kernel_rfl)
theorem jL:FOk Tryz.prog 310 dI:=fok (V:=⟨tt,[],[],19,[]⟩) al trivial mixed Tryz.func310 rfl rfl (enters_of Tryz.func310 (by kernel_rfl) rfl) rfl (Nat.le_of_ble_eq_true rfl) rfl (.two .no (.two (.two .no (.loop [.slot 8 (.num .i64)] .no)) .no)) (fun d=>by kernel_rfl)
theorem qY:FOk Tryz.prog 311 kL:=fok (V:=⟨tt,[(152,cD)],[],7,[]⟩) al ⟨dK,trivial⟩ mixed Tryz.func311 rfl rfl (enters_of Tryz.func311 (by kernel_rfl) rfl) rfl (Nat.le_of_ble_eq_true rfl) rfl .no (fun d=>by kernel_rfl)
theorem sZ:FOk Tryz.prog 301 mF:=fok (V:=⟨tt,[(310,dI),(311,kL)],[],70,[]⟩) al ⟨jL,qY,trivial⟩ mixed Tryz.func301 rfl rfl (enters_of Tryz.func301 (by kernel_rfl) rfl) rfl (Nat.le_of_ble_eq_true rfl) rfl (.two .no (.two .no (.two .no (.two (.two .no (.loop [.slot 6 (.own 26 y26),.slot 7 (.own 3 y3),.slot 18 (.num .i64)] (.two .no (.two .no (.join [.slot 6 (.own 26 y26),.slot 7 (.own 3 y3)] (.two .no (.two .no (.two .no (.two (.two .no (.loop [.slot 36 (.num .i64),.box 10 [(.own 3 y3)]] (.two .no (.two .no (.two (.two .no (.join [.slot 12 (.num .i64)] .no .no)) .no))))) (.two .no (.join [.slot 6 (.own 26 y26),.slot 13 (.num .i64),.gone 10] .no .no)))))) .no))))) .no)))) (fun d=>by kernel_rfl)
theorem rX:FOk Tryz.prog 271 mf:=fok (V:=⟨tt,[(300,oF),(301,mF)],[],49,[]⟩) al ⟨vH,sZ,trivial⟩ mixed Tryz.func271 rfl rfl (enters_of Tryz.func271 (by kernel_rfl) rfl) rfl (Nat.le_of_ble_eq_true rfl) rfl (.two .no (.two .no (.two (.two .no (.loop [.slot 3 (.own 3 y3),.slot 13 (.num .i64)] (.two .no (.two .no (.join [.slot 3 (.own 3 y3)] .no .no))))) (.two .no (.loop [.slot 3 (.own 3 y3),.slot 6 (.num .i64)] .no))))) (fun d=>by kernel_rfl)
theorem uk:FOk Tryz.prog 277 nO:=fok (V:=⟨tt,[],[],17,[]⟩) al trivial mixed Tryz.func277 rfl rfl (enters_of Tryz.func277 (by kernel_rfl) rfl) rfl (Nat.le_of_ble_eq_true rfl) rfl .no (fun d=>by kernel_rfl)
theorem um:FOk Tryz.prog 278 nP:=fok (V:=⟨tt,[],[],51,[]⟩) al trivial mixed Tryz.func278 rfl rfl (enters_of Tryz.func278 (by kernel_rfl) rfl) rfl (Nat.le_of_ble_eq_true rfl) rfl .no (fun d=>by kernel_rfl)
theorem wS:FOk Tryz.prog 242 po:=fok (V:=⟨tt,[(277,nO),(278,nP)],[],30,[]⟩) al ⟨uk,um,trivial⟩ mixed Tryz.func242 rfl rfl (enters_of Tryz.func242 (by kernel_rfl) rfl) rfl (Nat.le_of_ble_eq_true rfl) rfl .no (fun d=>by kernel_rfl)
theorem gO:FOk Tryz.prog 214 dA:=fok (V:=⟨tt,[(242,po)],[(44,.bool)],48,[]⟩) al ⟨wS,trivial⟩ mixed Tryz.func214 rfl rfl (enters_of Tryz.func214 (by kernel_rfl) rfl) rfl (Nat.le_of_ble_eq_true rfl) rfl (.two .no (.two .no (.two .no (.two .no (.two .no (.two .no (.two (.loop [.slot 8 (.num .i64),.row 7 3 (.int .i64)] .no) .no))))))) (fun d=>by kernel_rfl)
end R
namespace R
open Go.RowKit
open D
theorem Ic:FOk Tryz.prog 272 Af:=fok (V:=⟨tt,[(214,dA)],[],6,[]⟩) al ⟨gO,trivial⟩ mixed Tryz.func272 rfl rfl (enters_of Tryz.func272 (by kernel_rfl) rfl) rfl (Nat.le_of_ble_eq_true rfl) rfl .no (fun d=>by kernel_rfl)
theorem oe:FOk Tryz.prog 274 iu:=fok (V:=⟨tt,[],[],19,[]⟩) al trivial mixed Tryz.func274 rfl rfl (enters_of Tryz.func274 (by kernel_rfl) rfl) rfl (Nat.le_of_ble_eq_true rfl) rfl (.two .no (.two (.two .no (.loop [.slot 8 (.num .i64)] .no)) .no)) (fun d=>by kernel_rfl)
theorem pC:FOk Tryz.prog 273 jD:=fok (V:=⟨tt,[(274,iu)],[],7,[]⟩) al ⟨oe,trivial⟩ mixed Tryz.func273 rfl rfl (enters_of Tryz.func273 (by kernel_rfl) rfl) rfl (Nat.le_of_ble_eq_true rfl) rfl .no (fun d=>by kernel_rfl)
theorem pD:FOk Tryz.prog 275 jE:=fok (V:=⟨tt,[],[],12,[]⟩) al trivial mixed Tryz.func275 rfl rfl (enters_of Tryz.func275 (by kernel_rfl) rfl) rfl (Nat.le_of_ble_eq_true rfl) rfl .no (fun d=>by kernel_rfl)
theorem kz:FOk Tryz.prog 217 gf:=fok (V:=⟨tt,[(244,rO)],[],22,[]⟩) al ⟨xI,trivial⟩ mixed Tryz.func217 rfl rfl (enters_of Tryz.func217 (by kernel_rfl) rfl) rfl (Nat.le_of_ble_eq_true rfl) rfl .no (fun d=>by kernel_rfl)
theorem pE:FOk Tryz.prog 276 jF:=fok (V:=⟨tt,[(217,gf)],[],29,[]⟩) al ⟨kz,trivial⟩ mixed Tryz.func276 rfl rfl (enters_of Tryz.func276 (by kernel_rfl) rfl) rfl (Nat.le_of_ble_eq_true rfl) rfl .no (fun d=>by kernel_rfl)
theorem qZ:FOk Tryz.prog 240 kM:=fok (V:=⟨tt,[(236,my),(271,mf),(272,Af),(273,jD),(275,jE),(276,jF)],[],31,[]⟩) al ⟨qV,rX,Ic,pC,pD,pE,trivial⟩ mixed Tryz.func240 rfl rfl (enters_of Tryz.func240 (by kernel_rfl) rfl) rfl (Nat.le_of_ble_eq_true rfl) rfl .no (fun d=>by kernel_rfl)
theorem Oc:FOk Tryz.prog 209 FN:=fok (V:=⟨tt,[(240,kM)],[],13,[]⟩) al ⟨qZ,trivial⟩ mixed Tryz.func209 rfl rfl (enters_of Tryz.func209 (by kernel_rfl) rfl) rfl (Nat.le_of_ble_eq_true rfl) rfl .no (fun d=>by kernel_rfl)
theorem AB:FOk Tryz.prog 175 rR:=fok (V:=⟨tt,[(207,oE),(208,rQ),(209,FN)],[],28,[]⟩) al ⟨vG,AA,Oc,trivial⟩ mixed Tryz.func175 rfl rfl (enters_of Tryz.func175 (by kernel_rfl) rfl) rfl (Nat.le_of_ble_eq_true rfl) rfl .no (fun d=>by kernel_rfl)
theorem fR:FOk Tryz.prog 176 cA:=fok (V:=⟨tt,[],[],19,[]⟩) al trivial mixed Tryz.func176 rfl rfl (enters_of Tryz.func176 (by kernel_rfl) rfl) rfl (Nat.le_of_ble_eq_true rfl) rfl (.two .no (.two (.two .no (.loop [.slot 8 (.num .i64)] .no)) .no)) (fun d=>by kernel_rfl)
theorem mY:FOk Tryz.prog 210 gg:=fok (V:=⟨tt,[],[],26,[]⟩) al trivial mixed Tryz.func210 rfl rfl (enters_of Tryz.func210 (by kernel_rfl) rfl) rfl (Nat.le_of_ble_eq_true rfl) rfl (.two .no (.two .no (.two (.two .no (.loop [.slot 13 (.num .i64)] .no)) .no))) (fun d=>by kernel_rfl)
theorem ep:FOk Tryz.prog 211 bT:=fok (V:=⟨tt,[],[],32,[]⟩) al trivial mixed Tryz.func211 rfl rfl (enters_of Tryz.func211 (by kernel_rfl) rfl) rfl (Nat.le_of_ble_eq_true rfl) rfl (.two .no (.two .no (.two (.two .no (.loop [.slot 17 (.num .i64)] .no)) .no))) (fun d=>by kernel_rfl)
theorem uo:FOk Tryz.prog 212 nQ:=fok (V:=⟨tt,[(152,cD)],[],8,[]⟩) al ⟨dK,trivial⟩ mixed Tryz.func212 rfl rfl (enters_of Tryz.func212 (by kernel_rfl) rfl) rfl (Nat.le_of_ble_eq_true rfl) rfl .no (fun d=>by kernel_rfl)
theorem pF:FOk Tryz.prog 178 lf:=fok (V:=⟨tt,[(210,gg),(211,bT),(212,nQ)],[],24,[]⟩) al ⟨mY,ep,uo,trivial⟩ mixed Tryz.func178 rfl rfl (enters_of Tryz.func178 (by kernel_rfl) rfl) rfl (Nat.le_of_ble_eq_true rfl) rfl .no (fun d=>by kernel_rfl)
theorem F8:FOk Tryz.prog 177 xD:=fok (V:=⟨tt,[(178,lf)],[],7,[]⟩) al ⟨pF,trivial⟩ mixed Tryz.func177 rfl rfl (enters_of Tryz.func177 (by kernel_rfl) rfl) rfl (Nat.le_of_ble_eq_true rfl) rfl .no (fun d=>by kernel_rfl)
theorem F9:FOk Tryz.prog 179 xE:=fok (V:=⟨tt,[],[],8,[]⟩) al trivial mixed Tryz.func179 rfl rfl (enters_of Tryz.func179 (by kernel_rfl) rfl) rfl (Nat.le_of_ble_eq_true rfl) rfl .no (fun d=>by kernel_rfl)
theorem Lu:FOk Tryz.prog 140 Ct:=fok (V:=⟨tt,[(102,fT),(175,rR),(176,cA),(177,xD),(179,xE)],[],80,[]⟩) al ⟨im,AB,fR,F8,F9,trivial⟩ mixed Tryz.func140 rfl rfl (enters_of Tryz.func140 (by kernel_rfl) rfl) rfl (Nat.le_of_ble_eq_true rfl) rfl (.two .no (.two .no (.two (.two .no (.loop [.slot 13 (.num .i64),.box 4 [(.own 92 y92),(.own 146 FK)]] (.two .no (.two .no (.two (.two .no (.two .no (.two .no (.two .no (.join [.slot 9 (.num .i64),.box 4 [(.own 92 y92),(.own 146 FK)],.gone 7] .no .no))))) .no))))) .no))) (fun d=>by kernel_rfl)
end R
namespace R
open Go.RowKit
open D
theorem cr:FOk Tryz.prog 180 aX:=fok (V:=⟨tt,[],[],32,[]⟩) al trivial mixed Tryz.func180 rfl rfl (enters_of Tryz.func180 (by kernel_rfl) rfl) rfl (Nat.le_of_ble_eq_true rfl) rfl (.two .no (.two .no (.two (.two .no (.loop [.slot 17 (.num .i64)] .no)) .no))) (fun d=>by kernel_rfl)
theorem bW:FOk Tryz.prog 181 aT:=fok (V:=⟨tt,[],[],32,[]⟩) al trivial mixed Tryz.func181 rfl rfl (enters_of Tryz.func181 (by kernel_rfl) rfl) rfl (Nat.le_of_ble_eq_true rfl) rfl (.two .no (.two .no (.two (.two .no (.loop [.slot 17 (.num .i64)] .no)) .no))) (fun d=>by kernel_rfl)
theorem mg:FOk Tryz.prog 241 fo:=fok (V:=⟨tt,[],[],26,[]⟩) al trivial mixed Tryz.func241 rfl rfl (enters_of Tryz.func241 (by kernel_rfl) rfl) rfl (Nat.le_of_ble_eq_true rfl) rfl (.two .no (.two .no (.two (.two .no (.loop [.slot 13 (.num .i64)] .no)) .no))) (fun d=>by kernel_rfl)
theorem Bx:FOk Tryz.prog 213 tE:=fok (V:=⟨tt,[(241,fo)],[],10,[]⟩) al ⟨mg,trivial⟩ mixed Tryz.func213 rfl rfl (enters_of Tryz.func213 (by kernel_rfl) rfl) rfl (Nat.le_of_ble_eq_true rfl) rfl .no (fun d=>by kernel_rfl)
theorem ya:FOk Tryz.prog 182 qN:=fok (V:=⟨tt,[(213,tE)],[],24,[]⟩) al ⟨Bx,trivial⟩ mixed Tryz.func182 rfl rfl (enters_of Tryz.func182 (by kernel_rfl) rfl) rfl (Nat.le_of_ble_eq_true rfl) rfl .no (fun d=>by kernel_rfl)
theorem uq:FOk Tryz.prog 141 nR:=fok (V:=⟨tt,[(178,lf),(180,aX),(181,aT),(182,qN)],[],17,[]⟩) al ⟨pF,cr,bW,ya,trivial⟩ mixed Tryz.func141 rfl rfl (enters_of Tryz.func141 (by kernel_rfl) rfl) rfl (Nat.le_of_ble_eq_true rfl) rfl .no (fun d=>by kernel_rfl)
theorem nV:FOk Tryz.prog 100 jr:=fok (V:=⟨tt,[(140,Ct),(141,nR)],[],17,[]⟩) al ⟨Lu,uq,trivial⟩ mixed Tryz.func100 rfl rfl (enters_of Tryz.func100 (by kernel_rfl) rfl) rfl (Nat.le_of_ble_eq_true rfl) rfl .no (fun d=>by kernel_rfl)
theorem Ie:FOk Tryz.prog 70 Ag:=fok (V:=⟨tt,[(78,k9),(99,qp),(100,jr),(114,gb)],[],32,[]⟩) al ⟨pB,vF,nV,ky,trivial⟩ mixed Tryz.func70 rfl rfl (enters_of Tryz.func70 (by kernel_rfl) rfl) rfl (Nat.le_of_ble_eq_true rfl) rfl .no (fun d=>by kernel_rfl)
theorem rY:FOk Tryz.prog 142 oG:=fok (V:=⟨tt,[],[],6,[]⟩) al trivial mixed Tryz.func142 rfl rfl (enters_of Tryz.func142 (by kernel_rfl) rfl) rfl (Nat.le_of_ble_eq_true rfl) rfl .no (fun d=>by kernel_rfl)
theorem wT:FOk Tryz.prog 101 pq:=fok (V:=⟨tt,[(142,oG)],[],29,[]⟩) al ⟨rY,trivial⟩ mixed Tryz.func101 rfl rfl (enters_of Tryz.func101 (by kernel_rfl) rfl) rfl (Nat.le_of_ble_eq_true rfl) rfl (.two .no (.two .no (.two (.two .no (.loop [.slot 16 (.num .i64),.box 3 [(.num .i64),(.own 4 y4),(.own 26 y26)]] .no)) .no))) (fun d=>by kernel_rfl)
theorem vI:FOk Tryz.prog 54 oH:=fok (V:=⟨tt,[(99,qp),(100,jr),(101,pq)],[],29,[]⟩) al ⟨vF,nV,wT,trivial⟩ mixed Tryz.func54 rfl rfl (enters_of Tryz.func54 (by kernel_rfl) rfl) rfl (Nat.le_of_ble_eq_true rfl) rfl .no (fun d=>by kernel_rfl)
theorem ta:FOk Tryz.prog 143 mG:=fok (V:=⟨tt,[(102,fT)],[],52,[]⟩) al ⟨im,trivial⟩ mixed Tryz.func143 rfl rfl (enters_of Tryz.func143 (by kernel_rfl) rfl) rfl (Nat.le_of_ble_eq_true rfl) rfl (.two .no (.two .no (.two .no (.two (.two .no (.loop [.slot 32 (.num .i64)] (.two .no (.two .no (.two (.two .no (.two (.two .no (.loop [.slot 38 (.num .i64)] .no)) .no)) .no))))) .no)))) (fun d=>by kernel_rfl)
theorem CA:FOk Tryz.prog 104 wK:=fok (V:=⟨tt,[(55,jg),(102,fT),(143,mG)],[],29,[]⟩) al ⟨mA,im,ta,trivial⟩ mixed Tryz.func104 rfl rfl (enters_of Tryz.func104 (by kernel_rfl) rfl) rfl (Nat.le_of_ble_eq_true rfl) rfl (.two .no (.two (.two .no (.loop [.slot 11 (.num .i64)] .no)) .no)) (fun d=>by kernel_rfl)
theorem Lv:FOk Tryz.prog 183 Cu:=fok (V:=⟨tt,[(214,dA)],[(34,.bool)],67,[]⟩) al ⟨gO,trivial⟩ mixed Tryz.func183 rfl rfl (enters_of Tryz.func183 (by kernel_rfl) rfl) rfl (Nat.le_of_ble_eq_true rfl) rfl (.two .no (.two .no (.two .no (.two (.two .no (.loop [.slot 6 (.own 3 (.int .i64)),.slot 18 (.num .i64),.row 5 3 y3] .no)) (.two (.loop [.slot 6 (.own 3 (.int .i64)),.row 5 3 y3] (.two .no (.two (.two .no (.loop [.slot 6 (.own 3 y3),.slot 42 (.num .i64),.row 5 3 y3] (.two .no (.two .no (.two (.at [.slot 6 (.own 3 y3),.row 5 3 y3] .no) .no))))) .no))) .no))))) (fun d=>by kernel_rfl)
theorem ur:FOk Tryz.prog 185 qq:=fok (V:=⟨tt,[],[],22,[]⟩) al trivial mixed Tryz.func185 rfl rfl (enters_of Tryz.func185 (by kernel_rfl) rfl) rfl (Nat.le_of_ble_eq_true rfl) rfl (.two .no (.two .no (.two (.two .no (.loop [.slot 3 (.own 3 y3),.slot 4 (.num .i64)] (.two .no (.join [.slot 3 (.own 3 y3)] .no .no)))) .no))) (fun d=>by kernel_rfl)
theorem Od:FOk Tryz.prog 243 FO:=fok (V:=⟨tt,[],[],13,[]⟩) al trivial mixed Tryz.func243 rfl rfl (enters_of Tryz.func243 (by kernel_rfl) rfl) rfl (Nat.le_of_ble_eq_true rfl) rfl .no (fun d=>by kernel_rfl)
theorem Rs:FOk Tryz.prog 215 JQ:=fok (V:=⟨tt,[(243,FO)],[],57,[]⟩) al ⟨Od,trivial⟩ mixed Tryz.func215 rfl rfl (enters_of Tryz.func215 (by kernel_rfl) rfl) rfl (Nat.le_of_ble_eq_true rfl) rfl (.two .no (.two .no (.two (.two .no (.loop [.slot 13 (.num .i64),.row 3 238 Yn] .no)) .no))) (fun d=>by kernel_rfl)
end R
namespace R
open Go.RowKit
open D
theorem AC:FOk Tryz.prog 186 uf:=fok (V:=⟨tt,[(217,gf)],[],29,[]⟩) al ⟨kz,trivial⟩ mixed Tryz.func186 rfl rfl (enters_of Tryz.func186 (by kernel_rfl) rfl) rfl (Nat.le_of_ble_eq_true rfl) rfl (.two .no (.two .no (.two (.two .no (.loop [.slot 7 (.num .i64),.slot 8 (.num .i64)] .no)) .no))) (fun d=>by kernel_rfl)
theorem Oe:FOk Tryz.prog 216 FP:=fok (V:=⟨tt,[(185,qq),(186,uf),(217,gf)],[],45,[]⟩) al ⟨ur,AC,kz,trivial⟩ mixed Tryz.func216 rfl rfl (enters_of Tryz.func216 (by kernel_rfl) rfl) rfl (Nat.le_of_ble_eq_true rfl) rfl (.two .no (.two .no (.two (.two .no (.loop [.slot 9 (.num .i64),.slot 18 (.num .i64)] (.two .no (.two .no (.two (.two .no (.two .no (.loop [.slot 9 (.num .i64),.slot 28 (.num .i64)] (.two .no (.two .no (.join [.slot 9 (.num .i64)] .no .no)))))) .no))))) .no))) (fun d=>by kernel_rfl)
theorem yc:FOk Tryz.prog 184 qO:=fok (V:=⟨tt,[(185,qq),(215,JQ),(216,FP)],[],86,[]⟩) al ⟨ur,Rs,Oe,trivial⟩ mixed Tryz.func184 rfl rfl (enters_of Tryz.func184 (by kernel_rfl) rfl) rfl (Nat.le_of_ble_eq_true rfl) rfl (.two .no (.two .no (.two .no (.two (.two .no (.loop [.slot 26 (.num .i64),.row 6 26 y26] (.two .no (.two .no (.two (.two .no (.two .no (.loop [.slot 9 (.num .i64),.row 6 26 y26] (.two .no (.two (.two .no (.loop [.slot 38 (.num .i64),.row 6 26 y26] (.two .no (.two .no (.two (.two .no (.two .no (.loop [.slot 55 (.num .i64),.row 6 26 y26] .no))) .no))))) .no))))) .no))))) .no)))) (fun d=>by kernel_rfl)
theorem wU:FOk Tryz.prog 144 pv:=Zy (V:=⟨tt,[(104,wK),(183,Cu),(184,qO)],[(1000000,.raw)],26,[]⟩) al ⟨CA,Lv,yc,trivial⟩ mixed Tryz.func144 rfl rfl (enters_of Tryz.func144 (by kernel_rfl) rfl) ⟨rfl,rfl⟩ (Nat.le_of_ble_eq_true rfl) rfl .no (fun d=>by kernel_rfl)
theorem DF:FOk Tryz.prog 145 vt:=fok (V:=⟨tt,[(185,qq),(186,uf)],[],35,[]⟩) al ⟨ur,AC,trivial⟩ mixed Tryz.func145 rfl rfl (enters_of Tryz.func145 (by kernel_rfl) rfl) rfl (Nat.le_of_ble_eq_true rfl) rfl (.two .no (.two (.two .no (.loop [.slot 14 (.num .i64)] (.two .no (.two .no (.two (.two .no (.two .no (.loop [.slot 24 (.num .i64)] .no))) .no))))) .no)) (fun d=>by kernel_rfl)
theorem oS:FOk Tryz.prog 187 iO:=N9 HJ (enters_of Tryz.func187 (by kernel_rfl) rfl) 3
theorem mZ:FOk Tryz.prog 188 gh:=fok (V:=⟨tt,[],[(28,.raw),(56,.raw),(59,.raw)],61,[]⟩) al trivial mixed Tryz.func188 rfl rfl (enters_of Tryz.func188 (by kernel_rfl) rfl) rfl (Nat.le_of_ble_eq_true rfl) rfl (.two .no (.two .no (.two (.two .no (.loop [.slot 3 (.num .i64)] (.two .no (.two (.two .no (.two (.two .no (.two (.two .no (.loop [.slot 3 (.num .i64),.slot 5 (.num .i64),.row 0 3 y3] (.two .no (.two (.at [.slot 3 (.num .i64),.row 0 3 y3] .no) .no)))) .no)) .no)) .no)))) .no))) (fun d=>by kernel_rfl)
theorem DG:FOk Tryz.prog 146 vu:=fok (V:=⟨tt,[(142,oG),(187,iO),(188,gh)],[],10,[]⟩) al ⟨rY,oS,mZ,trivial⟩ mixed Tryz.func146 rfl rfl (enters_of Tryz.func146 (by kernel_rfl) rfl) rfl (Nat.le_of_ble_eq_true rfl) rfl .no (fun d=>by kernel_rfl)
theorem AD:FOk Tryz.prog 105 rS:=fok (V:=⟨tt,[(144,pv),(145,vt),(146,vu)],[],51,[]⟩) al ⟨wU,DF,DG,trivial⟩ mixed Tryz.func105 rfl rfl (enters_of Tryz.func105 (by kernel_rfl) rfl) rfl (Nat.le_of_ble_eq_true rfl) rfl (.two .no (.two .no (.two .no (.two (.two .no (.loop [.slot 7 (.own 3 y3),.slot 20 (.num .i64)] (.two .no (.two .no (.two (.at [.slot 7 (.own 3 y3)] .no) .no))))) .no)))) (fun d=>by kernel_rfl)
theorem By:FOk Tryz.prog 56 tF:=fok (V:=⟨tt,[(104,wK),(105,rS)],[],38,[]⟩) al ⟨CA,AD,trivial⟩ mixed Tryz.func56 rfl rfl (enters_of Tryz.func56 (by kernel_rfl) rfl) rfl (Nat.le_of_ble_eq_true rfl) rfl (.two .no (.two .no (.two .no (.two (.two .no (.loop [.slot 5 (.own 103 sP),.slot 17 (.num .i64)] (.two .no (.two .no (.two (.two .no (.two .no (.loop [.slot 5 (.own 103 sP),.slot 25 (.num .i64)] .no))) .no))))) .no)))) (fun d=>by kernel_rfl)
theorem yd:FOk Tryz.prog 13 qP:=fok (V:=⟨tt,[(54,oH),(55,jg),(56,tF)],[],26,[]⟩) al ⟨vI,mA,By,trivial⟩ mixed Tryz.func13 rfl rfl (enters_of Tryz.func13 (by kernel_rfl) rfl) rfl (Nat.le_of_ble_eq_true rfl) rfl .no (fun d=>by kernel_rfl)
theorem DH:FOk Tryz.prog 160 vv:=fok (V:=⟨tt,[(142,oG)],[],11,[]⟩) al ⟨rY,trivial⟩ mixed Tryz.func160 rfl rfl (enters_of Tryz.func160 (by kernel_rfl) rfl) rfl (Nat.le_of_ble_eq_true rfl) rfl .no (fun d=>by kernel_rfl)
theorem If:FOk Tryz.prog 121 Ah:=fok (V:=⟨tt,[(78,k9),(102,fT),(114,gb),(160,vv)],[],28,[]⟩) al ⟨pB,im,ky,DH,trivial⟩ mixed Tryz.func121 rfl rfl (enters_of Tryz.func121 (by kernel_rfl) rfl) rfl (Nat.le_of_ble_eq_true rfl) rfl .no (fun d=>by kernel_rfl)
theorem DI:FOk Tryz.prog 84 vx:=fok (V:=⟨tt,[(13,qP),(121,Ah)],[],26,[]⟩) al ⟨yd,If,trivial⟩ mixed Tryz.func84 rfl rfl (enters_of Tryz.func84 (by kernel_rfl) rfl) rfl (Nat.le_of_ble_eq_true rfl) rfl .no (fun d=>by kernel_rfl)
theorem kH:FOk Tryz.prog 221 eH:=fok (V:=⟨tt,[],[],19,[]⟩) al trivial mixed Tryz.func221 rfl rfl (enters_of Tryz.func221 (by kernel_rfl) rfl) rfl (Nat.le_of_ble_eq_true rfl) rfl (.two .no (.two (.two .no (.loop [.slot 8 (.num .i64)] .no)) .no)) (fun d=>by kernel_rfl)
theorem kA:FOk Tryz.prog 191 eh:=fok (V:=⟨tt,[(221,eH)],[(38,.raw),(41,.raw)],42,[]⟩) al ⟨kH,trivial⟩ mixed Tryz.func191 rfl rfl (enters_of Tryz.func191 (by kernel_rfl) rfl) rfl (Nat.le_of_ble_eq_true rfl) rfl (.two .no (.two .no (.two .no (.two (.two .no (.loop [.slot 5 (.num .i64),.slot 6 (.num .i64),.row 0 103 sP] (.two .no (.two (.at [.slot 5 (.num .i64),.row 0 103 sP] .no) .no)))) .no)))) (fun d=>by kernel_rfl)
theorem AE:FOk Tryz.prog 198 rT:=fok (V:=⟨tt,[],[],13,[]⟩) al trivial mixed Tryz.func198 rfl rfl (enters_of Tryz.func198 (by kernel_rfl) rfl) rfl (Nat.le_of_ble_eq_true rfl) rfl .no (fun d=>by kernel_rfl)
end R
namespace R
open Go.RowKit
open D
theorem ye:FOk Tryz.prog 164 qQ:=fok (V:=⟨tt,[(198,rT)],[],20,[]⟩) al ⟨AE,trivial⟩ mixed Tryz.func164 rfl rfl (enters_of Tryz.func164 (by kernel_rfl) rfl) rfl (Nat.le_of_ble_eq_true rfl) rfl .no (fun d=>by kernel_rfl)
theorem kI (a b:Int) (W:World):Calls Tryz.prog 198 #[.int .i64 a,.int .i64 b] W fun e w'=>e= .returned (.int .i64 (cmpI a b))∧w'=W:=by
 unfold cmpI
 by_cases h:a<b
 ·go_enter Tryz.func198,Tryz.ntmps198
  go_wp2
  go_ret
  simp[h]
 ·by_cases k:b<a
  ·go_enter Tryz.func198,Tryz.ntmps198
   go_wp2
   go_ret
   simp[h,k]
  ·go_enter Tryz.func198,Tryz.ntmps198
   go_wp2
   go_ret
   simp[h,k]
theorem kJ (x y:Int×Int) (W:World):Calls Tryz.prog 164 #[.agg #[.int .i64 x.1,.int .i64 x.2],.agg #[.int .i64 y.1,.int .i64 y.2]] W fun e w'=>e= .returned (.int .i64 (Lc x y))∧ ∃q os',w'=Go.Sort.grow (W.drewN q) os':=by
 unfold Lc
 have hcon:=kI
 generalize cmpI=cf at hcon⊢
 by_cases h:x.1=y.1
 ·rw[if_pos h]
  go_enter Tryz.func164,Tryz.ntmps164
  go_wp2_with (go_at_call 198;refine (hcon _ _ _).mono ?_;rintro e w' ⟨rfl,rfl⟩)
  go_ret
  exact ⟨rfl,0,_,by rw[Go.Sort.alloc_eq_grow,Go.Sort.alloc_eq_grow,Go.Sort.grow_grow];rfl⟩
 ·rw[if_neg h]
  go_enter Tryz.func164,Tryz.ntmps164
  go_wp2_with (go_at_call 198;refine (hcon _ _ _).mono ?_;rintro e w' ⟨rfl,rfl⟩)
  go_ret
  exact ⟨rfl,0,_,by rw[Go.Sort.alloc_eq_grow,Go.Sort.alloc_eq_grow,Go.Sort.grow_grow];rfl⟩
theorem lg:FOk Tryz.prog 222 fj:=N6 Bg (by intro w;kernel_rfl) (by intro w;kernel_rfl) Ro Rp (enters_of Tryz.func164 (by kernel_rfl) rfl) (fun _ _ _ _ _ _ _ _ x y=>kJ x y _) (enters_of Tryz.func222 (by kernel_rfl) rfl) 103
theorem mi:FOk Tryz.prog 223 fp:=fok (V:=⟨tt,[],[(28,.raw),(56,.raw),(59,.raw)],61,[]⟩) al trivial mixed Tryz.func223 rfl rfl (enters_of Tryz.func223 (by kernel_rfl) rfl) rfl (Nat.le_of_ble_eq_true rfl) rfl (.two .no (.two .no (.two (.two .no (.loop [.slot 3 (.num .i64)] (.two .no (.two (.two .no (.two (.two .no (.two (.two .no (.loop [.slot 3 (.num .i64),.slot 5 (.num .i64),.row 0 103 sP] (.two .no (.two (.at [.slot 3 (.num .i64),.row 0 103 sP] .no) .no)))) .no)) .no)) .no)))) .no))) (fun d=>by kernel_rfl)
theorem Ig:FOk Tryz.prog 192 Ai:=fok (V:=⟨tt,[(164,qQ),(222,fj),(223,fp)],[],11,[]⟩) al ⟨ye,lg,mi,trivial⟩ mixed Tryz.func192 rfl rfl (enters_of Tryz.func192 (by kernel_rfl) rfl) rfl (Nat.le_of_ble_eq_true rfl) rfl .no (fun d=>by kernel_rfl)
theorem na:FOk Tryz.prog 224 gi:=fok (V:=⟨tt,[],[],19,[]⟩) al trivial mixed Tryz.func224 rfl rfl (enters_of Tryz.func224 (by kernel_rfl) rfl) rfl (Nat.le_of_ble_eq_true rfl) rfl (.two .no (.two (.two .no (.loop [.slot 8 (.num .i64)] .no)) .no)) (fun d=>by kernel_rfl)
theorem lh:FOk Tryz.prog 194 fl:=fok (V:=⟨tt,[(224,gi)],[],9,[]⟩) al ⟨na,trivial⟩ mixed Tryz.func194 rfl rfl (enters_of Tryz.func194 (by kernel_rfl) rfl) rfl (Nat.le_of_ble_eq_true rfl) rfl .no (fun d=>by kernel_rfl)
theorem uu:FOk Tryz.prog 193 nS:=fok (V:=⟨tt,[(194,fl)],[],7,[]⟩) al ⟨lh,trivial⟩ mixed Tryz.func193 rfl rfl (enters_of Tryz.func193 (by kernel_rfl) rfl) rfl (Nat.le_of_ble_eq_true rfl) rfl .no (fun d=>by kernel_rfl)
theorem wV:FOk Tryz.prog 153 pw:=fok (V:=⟨tt,[(191,eh),(192,Ai),(193,nS)],[],9,[]⟩) al ⟨kA,Ig,uu,trivial⟩ mixed Tryz.func153 rfl rfl (enters_of Tryz.func153 (by kernel_rfl) rfl) rfl (Nat.le_of_ble_eq_true rfl) rfl .no (fun d=>by kernel_rfl)
theorem yf:FOk Tryz.prog 115 qR:=fok (V:=⟨tt,[(153,pw)],[],12,[]⟩) al ⟨wV,trivial⟩ mixed Tryz.func115 rfl rfl (enters_of Tryz.func115 (by kernel_rfl) rfl) rfl (Nat.le_of_ble_eq_true rfl) rfl .no (fun d=>by kernel_rfl)
theorem Ih:FOk Tryz.prog 71 Aj:=fok (V:=⟨tt,[(84,vx),(115,qR)],[],54,[]⟩) al ⟨DI,yf,trivial⟩ mixed Tryz.func71 rfl rfl (enters_of Tryz.func71 (by kernel_rfl) rfl) rfl (Nat.le_of_ble_eq_true rfl) rfl (.two .no (.two .no (.two .no (.two (.two .no (.at [.box 13 [(.num .i64),.boo,(.own 103 sP),(.own 103 sP)],.gone 11] .no)) .no)))) (fun d=>by kernel_rfl)
theorem AF:FOk Tryz.prog 25 rU:=fok (V:=⟨tt,[(70,Ag),(71,Aj)],[],29,[]⟩) al ⟨Ie,Ih,trivial⟩ mixed Tryz.func25 rfl rfl (enters_of Tryz.func25 (by kernel_rfl) rfl) rfl (Nat.le_of_ble_eq_true rfl) rfl .no (fun d=>by kernel_rfl)
theorem wW:FOk Tryz.prog 40 px:=fok (V:=⟨tt,[(25,rU)],[],30,[]⟩) al ⟨AF,trivial⟩ mixed Tryz.func40 rfl rfl (enters_of Tryz.func40 (by kernel_rfl) rfl) rfl (Nat.le_of_ble_eq_true rfl) rfl (.two .no (.two .no (.loop [.slot 8 (.own 60 y60),.box 5 [(.num .i64),(.num .i64),(.num .i64)]] .no))) (fun d=>by kernel_rfl)
theorem DJ:FOk Tryz.prog 19 vy:=fok (V:=⟨tt,[],[],27,[]⟩) al trivial mixed Tryz.func19 rfl rfl (enters_of Tryz.func19 (by kernel_rfl) rfl) rfl (Nat.le_of_ble_eq_true rfl) rfl (.two .no (.two (.two .no (.loop [.par 0 [] 103 sP,.slot 1 (.num .i64),.slot 5 (.num .i64)] .no)) .no)) (fun d=>by kernel_rfl)
theorem yg:FOk Tryz.prog 41 qS:=fok (V:=⟨tt,[(19,vy)],[],45,[]⟩) al ⟨DJ,trivial⟩ mixed Tryz.func41 rfl rfl (enters_of Tryz.func41 (by kernel_rfl) rfl) rfl (Nat.le_of_ble_eq_true rfl) rfl (.two .no (.two (.two .no (.loop [.par 0 [] 60 y60,.slot 1 (.num .i64),.slot 5 (.num .i64)] .no)) .no)) (fun d=>by kernel_rfl)
theorem DK:FOk Tryz.prog 20 vz:=fok (V:=⟨tt,[],[],31,[]⟩) al trivial mixed Tryz.func20 rfl rfl (enters_of Tryz.func20 (by kernel_rfl) rfl) rfl (Nat.le_of_ble_eq_true rfl) rfl (.two .no (.two (.two .no (.loop [.slot 1 (.num .i64),.slot 5 (.num .i64)] .no)) .no)) (fun d=>by kernel_rfl)
theorem yh:FOk Tryz.prog 42 qT:=fok (V:=⟨tt,[(20,vz)],[],53,[]⟩) al ⟨DK,trivial⟩ mixed Tryz.func42 rfl rfl (enters_of Tryz.func42 (by kernel_rfl) rfl) rfl (Nat.le_of_ble_eq_true rfl) rfl (.two .no (.two (.two .no (.loop [.slot 1 (.num .i64),.slot 5 (.num .i64)] .no)) .no)) (fun d=>by kernel_rfl)
theorem pG:FOk Tryz.prog 7 py:=fok (V:=⟨tt,[(8,tg),(11,th),(15,tj),(17,qI),(21,vi),(23,vj),(24,qJ),(27,qK),(28,vk),(29,rI),(38,tm),(39,pj),(40,px),(41,qS),(42,qT)],[],130,[]⟩) al ⟨Bh,Bi,Bj,xV,Dw,Dx,xW,xX,Dy,An,Bm,wP,wW,yg,yh,trivial⟩ mixed Tryz.func7 rfl rfl (enters_of Tryz.func7 (by kernel_rfl) rfl) rfl (Nat.le_of_ble_eq_true rfl) rfl .no (fun d=>by kernel_rfl)
end R
namespace D
open Go.RowKit
theorem pH (x0:Int×(List ((List Int)×(List (Int×Int×Int×Int))))) (x1:(List (Int×(List Bool)×(List (List Int))))×(List (Int×((List (Int×Int×Int×Int)))×Int))) (x2:Int×Int×Int) (r:Bool) (hm:da x0 x1 x2=some r) {I:Hp} {w0:World} (v0_0:Value) (v1_0:Value) (v1_1:Value) (r0_0:(ae 29 (aD (ae 3 bp) (ae 156 (aD bp (aD bp (aD bp bp)))))).rd I [v0_0] x0.2) (r1_0:(ae 133 (aD bp (aD (ae 4 q9) (ae 26 (ae 3 bp))))).rd I [v1_0] x1.1) (r1_1:(ae 139 (aD bp (aD (ae 232 (aD bp (aD bp (aD bp bp)))) bp))).rd I [v1_1] x1.2):Con Tryz.prog 7 #[.agg #[.int .i64 x0.1,v0_0],.agg #[v1_0,v1_1],.agg #[.int .i64 x2.1,.int .i64 x2.2.1,.int .i64 x2.2.2]] I w0 [] (fun v=>v= .bool r) (fun _=>[]):=fun w C hs =>
 ((R.pG).con w0 I [.agg #[.int .i64 x0.1,v0_0],.agg #[v1_0,v1_1],.agg #[.int .i64 x2.1,.int .i64 x2.2.1,.int .i64 x2.2.2]] (x0,(x1,(x2,()))) r ⟨_,_,rfl,⟨[.int .i64 x0.1,v0_0],rfl,⟨_,_,rfl,rfl,r0_0⟩⟩,⟨_,_,rfl,⟨[v1_0,v1_1],rfl,⟨_,_,rfl,r1_0,r1_1⟩⟩,⟨_,_,rfl,⟨[.int .i64 x2.1,.int .i64 x2.2.1,.int .i64 x2.2.2],rfl,⟨_,_,rfl,rfl,⟨_,_,rfl,rfl,rfl⟩⟩⟩,rfl⟩⟩⟩ hm w C hs).mono fun e w' ⟨v,he,_,hst⟩=>by
  obtain ⟨h1,h2⟩:=R.uN (h1:=fun _=>rfl) (show St I w0 w' (Ch.own R.Ty.bool.rep [v] r::C) from hst)
  exact ⟨v,he,(List.cons.inj h1).1,h2⟩
end D
namespace D
open Go.RowKit
def I64 (n:Int):Prop:= -9223372036854775808≤n∧n≤9223372036854775807
class Data (α:Type) where
 lim:α→Prop
 sm:α→Prop
instance:Data Int:=⟨I64,fun _=>True⟩
instance:Data Bool:=⟨fun _=>True,fun _=>True⟩
instance:Data ByteArray:=⟨fun s=>s.size≤9223372036854775807,fun s=>s.size≤1048576⟩
instance {α β:Type} [Data α] [Data β] :Data (α×β):=⟨fun x=>Data.lim x.1∧Data.lim x.2,fun x=>Data.sm x.1∧Data.sm x.2⟩
instance {α:Type} [Data α] :Data (List α):=⟨fun xs=>xs.length≤9223372036854775807∧ ∀x,x∈xs→Data.lim x,fun xs=>xs.length≤1048576∧ ∀x,x∈xs→Data.sm x⟩
structure Opens (P:Program) (t:TypeId) {α:Type} [Data α] (R:Rep α):Prop where
 out: ∀ {H:Type} (enc:TypeId×Value→H) (w:World) (fuel:Nat) (cs:List Value) (x:DataW H×List MemPlace),DataW.trod enc P w 0 (fun _=>true) true fuel t cs=some x→ ∃a:α,R.rd (hp w) cs a∧Data.lim a
theorem Of {P:Program} {t:TypeId} (h:P.underlying t=some (.int .i64)):Opens P t bp:=by
 constructor
 intro H enc w fuel cs x hx
 obtain ⟨n,rfl,-,hw⟩:=DataW.trod_int h hx
 refine ⟨n,rfl,show I64 n from ?_⟩
 simp[Lit.wf,IntKind.min,IntKind.max,IntKind.signed,IntKind.bits] at hw
 unfold I64
 omega
theorem Lw {P:Program} {t:TypeId} (h:P.underlying t=some .bool):Opens P t q9:=by
 constructor
 intro H enc w fuel cs x hx
 obtain ⟨n,rfl,-⟩:=DataW.trod_bool h hx
 exact ⟨n,rfl,trivial⟩
theorem gP {P:Program} {t e:TypeId} {α:Type} [Data α] {R:Rep α} {E:TypeId} (h:P.underlying t=some (.slice e)) (hc:P.cellsOf e=R.size) (h0:0<R.size) (he:Opens P e R):Opens P t (ae E R):=by
 constructor
 intro H enc w fuel cs x hx
 rcases Go.Deep.open_slice h hx with ⟨rfl,-⟩ | ⟨a,len,cap,m,n,D,Pl,rfl,-,hl,hm,hmm,-,hel⟩
 ·exact ⟨[],⟨none,0,rfl,by simp,.inl rfl⟩,Nat.zero_le _,fun x hx=>by cases hx⟩
 have hlm:m=cap:=by simpa using hmm
 subst hlm
 rw[hc] at hel
 by_cases hz:len=0
 ·subst hz
  exact ⟨[],⟨some a,m,rfl,by simp,.inl rfl⟩,Nat.zero_le _,fun x hx=>by cases hx⟩
 ·have hone: ∀i,i<len→ ∃c:List Value,∃y:α,c.length=R.size∧(∀j,j<R.size→w.cell? ((a.add (i*R.size)).add j)=c[j]?)∧R.rd (hp w) c y∧Data.lim y:=by
   intro i hi
   obtain ⟨c,h1,h2⟩:=hel i (by omega)
   obtain ⟨-,h3,h4⟩:=World.cells?_some h1
   obtain ⟨y,hy⟩:=he.out enc w _ _ _ h2
   exact ⟨c,y,h3,h4,hy⟩
  obtain ⟨c0,y0,hc0,hr0,-⟩:=hone 0 (by omega)
  have h00:=hr0 0 h0
  have hsome: ∃v,c0[0]? =some v:=⟨_,List.getElem?_eq_getElem (by omega)⟩
  obtain ⟨v,hv⟩:=hsome
  rw[hv] at h00
  have ha:(a.add (0*R.size)).add 0=a:=by simp[Addr.add]
  rw[ha] at h00
  obtain ⟨b,off,spot⟩:=a
  have hb: ∃ccs T fr,w.heap[b]? =some (.cells ccs T fr)∧spot=none:=by
   simp only[World.cell?] at h00
   split at h00
   ·rename_i ccs T fr heq
    cases spot with
    | none=>exact ⟨ccs,T,fr,heq,rfl⟩
    | some s=>simp at h00
   ·simp at h00
  obtain ⟨ccs,T,fr,hh,rfl⟩:=hb
  have hadd: ∀i j,(Addr.add ⟨b,off,none⟩ i).add j=⟨b,off+i+j,none⟩:=by
   intro i j
   by_cases h1:i=0 <;> by_cases h2:j=0 <;> simp[Addr.add,h1,h2,Nat.add_assoc]
  haveI:Inhabited α:=⟨y0⟩
  obtain ⟨X,hX⟩:=Go.Deep.choose_lt (α:=α) (n:=len) (p:=fun i y=> ∃c:List Value,c.length=R.size∧(∀j,j<R.size→ccs.toList[off+i*R.size+j]? =c[j]?)∧R.rd (hp w) c y∧Data.lim y) (fun i hi=>by
   obtain ⟨c,y,h1,h2,h3⟩:=hone i hi
   refine ⟨y,c,h1,fun j hj=>?_,h3⟩
   have:=h2 j hj
   rw[hadd] at this
   simp only[World.cell?,hh] at this
   simpa using this)
  have hlen:((List.range len).map X).length=len:=by simp
  have hel2: ∀i y,((List.range len).map X)[i]? =some y→i<len∧y=X i:=fun i y hy=>by
   have hi:i<len:=by have:=(List.getElem?_eq_some_iff.1 hy).1;omega
   exact ⟨hi,by simpa [hi] using hy.symm⟩
  refine ⟨(List.range len).map X,⟨some ⟨b,off,none⟩,m,by rw[hlen],by rw[hlen];unfold maxLen at hm;unfold lim;omega,.inr ⟨b,off,ccs,T,fr,rfl,hh,fun i y hy=>?_⟩⟩,by rw[hlen];unfold maxLen at hm;omega,fun y hy=>?_⟩
  ·obtain ⟨hi,rfl⟩:=hel2 i y hy
   obtain ⟨c,e1,e2,e3,-⟩:=hX i hi
   exact ⟨c,e1,e2,e3⟩
  ·obtain ⟨i,hi,he⟩:=List.mem_iff_getElem?.1 hy |>.imp fun i hi=>hel2 i y hi
   obtain ⟨-,-,-,-,e4⟩:=hX i hi
   rw[he];exact e4
structure OpensFs (P:Program) (fs:List Field) (o:Nat) {α:Type} [Data α] (R:Rep α):Prop where
 out: ∀ {H:Type} (enc:TypeId×Value→H) (w:World) (fuel:Nat) (cs:List Value),cs.length=o+R.size→
  (∀f∈fs,∃x,DataW.trod enc P w 0 (fun _=>true) true fuel f.type ((cs.drop f.offset).take (P.cellsOf f.type))=some x)→ ∃a:α,R.rd (hp w) (cs.drop o) a∧Data.lim a
theorem iq {P:Program} {f:Field} {o:Nat} {α:Type} [Data α] {R:Rep α} (ho:f.offset=o) (hc:P.cellsOf f.type=R.size) (h:Opens P f.type R):OpensFs P [f] o R:=by
 constructor
 intro H enc w fuel cs hl hx
 obtain ⟨x,hx⟩:=hx f (by simp)
 rw[ho,hc,List.take_of_length_le (by rw[List.length_drop];omega)] at hx
 exact h.out enc w _ _ _ hx
theorem cP {P:Program} {f:Field} {fs:List Field} {o:Nat} {α β:Type} [Data α] [Data β] {R:Rep α} {S:Rep β} (ho:f.offset=o) (hc:P.cellsOf f.type=R.size) (h:Opens P f.type R) (hs:OpensFs P fs (o+R.size) S):OpensFs P (f::fs) o (aD R S):=by
 constructor
 intro H enc w fuel cs hl hx
 have hl':cs.length=o+(R.size+S.size):=hl
 obtain ⟨b,hb,hlb⟩:=hs.out enc w fuel cs (by omega) (fun g hg=>hx g (by simp[hg]))
 obtain ⟨x,hx⟩:=hx f (by simp)
 rw[ho,hc] at hx
 obtain ⟨a,ha,hla⟩:=h.out enc w _ _ _ hx
 refine ⟨(a,b),⟨(cs.drop o).take R.size,cs.drop (o+R.size),?_,ha,hb⟩,hla,hlb⟩
 rw[←List.drop_drop,List.take_append_drop]
theorem eu {P:Program} {t:TypeId} {fs:Array Field} {α:Type} [Data α] {R:Rep α} (h:P.underlying t=some (.struct fs)) (hc:P.cellsOf t=R.size) (hf:OpensFs P fs.toList 0 R):Opens P t R:=by
 constructor
 intro H enc w fuel cs x hx
 obtain ⟨xs,n,-,-,hl,hn,hel⟩:=DataW.trod_struct h hx
 have:=hf.out enc w n cs (by omega) (fun f hm=>by
  obtain ⟨i,hi,rfl⟩:=List.getElem_of_mem hm
  have h1:fs[i]? =some fs.toList[i]:=by simp
  exact ⟨_,(hel i _ h1).trans (List.getElem?_eq_getElem (by simp at hi;omega))⟩)
 simpa using this
theorem St.below {w0 w:World} {cs:List Ch} (h:St (hp w0) w0 w cs):Below w0.heap.size w0 w:=by
 obtain ⟨⟨h1,h2,h3,h4⟩,h5,-⟩:=h
 refine ⟨h1,h2,h3,h4,fun b hb=>?_⟩
 have e:w0.heap[b]? =some w0.heap[b]:=Array.getElem?_eq_getElem hb
 rw[e];exact h5 b _ e
end D
namespace D
open Go.RowKit
theorem cB {n:Int} (h1: -9223372036854775808≤n) (h2:n≤9223372036854775807):IntKind.i64.wrap n=n:=by
 simp only[IntKind.wrap,IntKind.bits,IntKind.signed,Bool.true_and]
 split <;> rename_i h <;> simp at h <;> omega
theorem aa {i:Nat} (h:i<9223372036854775807):IntKind.i64.wrap ((i:Int)+1)=((i+1:Nat):Int):=by
 rw[cB (by omega) (by omega)];rfl
theorem ak {α:Type} {xs:List α} {i:Nat} (h:i<xs.length):ax xs (i:Int)=some (xs[i]):=by
 unfold ax
 rw[if_pos (Int.natCast_nonneg _)]
 simp[h]
theorem bw {i n:Nat} (h:i<n):decide ((i:Int)<(n:Int))=true:=by simp[h]
theorem ba {n:Nat} :decide ((n:Int)<(n:Int))=false:=by simp
theorem kN (k:Nat) (h:k≤9223372036854775807):k<aC:=by unfold aC;omega
theorem vJ {α:Type} {b n:Nat} {z:α} (h:n*b≤140737488355328):mkI b (n:Int) z=some (List.replicate n z):=by
 unfold mkI
 rw[if_pos ⟨Int.natCast_nonneg _,by simpa using h⟩];simp
theorem Gc {R S:Type} {f:S→Option (Out R S)} (inv:Nat→S) (N:Nat) (h: ∀i,i<N→f (inv i)=some (.nxt (inv (i+1)))): ∀(m i k:Nat),i+m=N→ah f (k+m) (inv i)=ah f k (inv N)
 | 0,i,k,e=>by rw[show i=N by omega];rfl
 | m+1,i,k,e=>by
  rw[←Nat.add_assoc,ah,h i (by omega)]
  exact Gc inv N h m (i+1) k (by omega)
theorem Ge {R S:Type} {f:S→Option (Out R S)} (inv:Nat→S) (N:Nat) {s:S} (h: ∀i,i<N→f (inv i)=some (.nxt (inv (i+1)))) (he:f (inv N)=some (.brk s)) (hN:N<aC):ah f aC (inv 0)=some (.brk s):=by
 have e:aC=(aC - N - 1)+1+N:=by omega
 rw[e,Gc inv N h N 0 _ (by omega),ah,he]
theorem toL {R α:Type} {f:List α×Int→Option (Out R (List α×Int))} {z:α} (xs:List α) (hN:xs.length≤9223372036854775807)
  (hstep: ∀ys i (h:i<xs.length),ys.length=xs.length→f (ys,(i:Int))=some (.nxt (ys.set i xs[i],((i+1:Nat):Int)))) (hend: ∀ys,ys.length=xs.length→f (ys,(xs.length:Int))=some (.brk (ys,(xs.length:Int)))) :
  ah f aC (List.replicate xs.length z,0)=some (.brk (xs,(xs.length:Int))):=by
 have h0:(List.replicate xs.length z,(0:Int))=(fun i:Nat=>(xs.take i++(List.replicate xs.length z).drop i,(i:Int))) 0:=by simp
 rw[h0]
 refine Ge (fun i:Nat=>(xs.take i++(List.replicate xs.length z).drop i,(i:Int))) xs.length (fun i hi=>?_) ?_ (kN _ hN)
 ·have hl:(xs.take i++(List.replicate xs.length z).drop i).length=xs.length:=by
   rw[List.length_append,List.length_take,List.length_drop,List.length_replicate];omega
  rw[hstep _ i hi hl]
  congr 3
  have ht:(xs.take i).length=i:=by rw[List.length_take];omega
  rw[List.set_append_right _ _ (by omega),ht,Nat.sub_self,List.drop_eq_getElem_cons (by rw[List.length_replicate];exact hi),List.set_cons_zero,List.take_succ_eq_append_getElem hi,List.append_assoc]
  rfl
 ·have:=hend xs rfl
  rw[List.take_of_length_le (Nat.le_refl _),List.drop_of_length_le (by rw[List.length_replicate];exact Nat.le_refl _),List.append_nil]
  exact this
def JR {α:Type} [Data α] (m:α→Int→Option Int):Prop:= ∀x l,Data.lim x→0≤l→l≤1048576→ ∃r,m x l=some r∧(r<0∨(0≤r∧r≤l∧Data.sm x))
def Gf {α:Type} [Data α] (m:α→Option α):Prop:= ∀x,Data.sm x→m x=some x
def A5 {α:Type} [Data α] [DecidableEq α] (m:α→α→Option Bool):Prop:= ∀x y,Data.sm x→Data.sm y→m x y=some (decide (x=y))
theorem Zk {α:Type} [Data α] {f:Int×Int→Option (Out Int (Int×Int))} (xs:List α)
  (hstep: ∀i (h:i<xs.length) l,0≤l→l≤1048576→ ∃r,f (l,(i:Int))=some (if r<0 then .ret (-1) else .nxt (r,((i+1:Nat):Int)))∧(r<0∨(0≤r∧r≤l∧Data.sm xs[i])))
  (hend: ∀l,f (l,(xs.length:Int))=some (.brk (l,(xs.length:Int)))): ∀(m i k:Nat) (l:Int),i+m=xs.length→m<k→0≤l→l≤1048576→
   ah f k (l,(i:Int))=some (.ret (-1))∨ ∃r,ah f k (l,(i:Int))=some (.brk (r,(xs.length:Int)))∧0≤r∧r≤l∧ ∀j (h:j<xs.length),i≤j→Data.sm xs[j]
 | 0,i,k,l,e,hk,h0,h1=>by
  obtain ⟨k,rfl⟩: ∃q,k=q+1:=⟨k - 1,by omega⟩
  obtain rfl:i=xs.length:=by omega
  exact .inr ⟨l,by rw[ah,hend],h0,Int.le_refl _,fun j hj hi=>by omega⟩
 | m+1,i,k,l,e,hk,h0,h1=>by
  obtain ⟨k,rfl⟩: ∃q,k=q+1:=⟨k - 1,by omega⟩
  obtain ⟨r,e1,e2⟩:=hstep i (by omega) l h0 h1
  rw[ah,e1]
  rcases e2 with e2 | ⟨e2,e3,e4⟩
  ·rw[if_pos e2];exact .inl rfl
  ·rw[if_neg (by omega)]
   rcases Zk xs hstep hend m (i+1) k r (by omega) (by omega) e2 (by omega) with h | ⟨q,g1,g2,g3,g4⟩
   ·exact .inl h
   ·refine .inr ⟨q,g1,g2,by omega,fun j hj hi=>?_⟩
    by_cases hji:j=i
    ·subst hji;exact e4
    ·exact g4 j hj (by omega)
theorem szL {α:Type} [Data α] {f:Int×Int→Option (Out Int (Int×Int))} (xs:List α) {l:Int} (hN:xs.length≤9223372036854775807)
  (hstep: ∀i (h:i<xs.length) l,0≤l→l≤1048576→ ∃r,f (l,(i:Int))=some (if r<0 then .ret (-1) else .nxt (r,((i+1:Nat):Int)))∧(r<0∨(0≤r∧r≤l∧Data.sm xs[i])))
  (hend: ∀l,f (l,(xs.length:Int))=some (.brk (l,(xs.length:Int)))) (h0:0≤l) (h1:l≤1048576) :
  ∃r,(if decide (IntKind.i64.wrap (l - (xs.length:Int))<0) then (some (-1)) else (ay (ah f aC (IntKind.i64.wrap (l - (xs.length:Int)),0)) (fun r=>some r) (fun s4=>some s4.1)))=some r∧(r<0∨(0≤r∧r≤l∧Data.sm xs)):=by
 rw[cB (by omega) (by omega)]
 by_cases h:l - (xs.length:Int)<0
 ·exact ⟨-1,by rw[if_pos (decide_eq_true h)],.inl (by decide)⟩
 ·rw[if_neg (by simpa using h)]
  rcases Zk xs hstep hend xs.length 0 aC (l - xs.length) (by omega) (kN _ hN) (by omega) (by omega) with e | ⟨r,e,g1,g2,g3⟩
  ·exact ⟨-1,by rw[show ((0:Int))=((0:Nat):Int) from rfl,e];rfl,.inl (by decide)⟩
  ·refine ⟨r,by rw[show ((0:Int))=((0:Nat):Int) from rfl,e];rfl,.inr ⟨g1,by omega,by omega,fun x hx=>?_⟩⟩
   obtain ⟨j,hj,rfl⟩:=List.getElem_of_mem hx
   exact g3 j hj (Nat.zero_le _)
theorem szF {α:Type} [Data α] (xs:List α) {l:Int} (hN:xs.length≤9223372036854775807) (hf: ∀x:α,Data.sm x) (h0:0≤l) (h1:l≤1048576) :
  ∃r,(if decide (IntKind.i64.wrap (l - (xs.length:Int))<0) then (some (-1)) else (some (IntKind.i64.wrap (l - (xs.length:Int)))))=some r∧(r<0∨(0≤r∧r≤l∧Data.sm xs)):=by
 rw[cB (by omega) (by omega)]
 by_cases h:l - (xs.length:Int)<0
 ·exact ⟨-1,by rw[if_pos (decide_eq_true h)],.inl (by decide)⟩
 ·exact ⟨_,by rw[if_neg (by simpa using h)],.inr ⟨by omega,by omega,by omega,fun x _=>hf x⟩⟩
theorem Yp {α:Type} [DecidableEq α] {f:Int→Option (Out Bool Int)} (xs ys:List α) (hl:xs.length=ys.length)
  (hstep: ∀i (h:i<xs.length) (h':i<ys.length),f (i:Int)=some (if xs[i] =ys[i] then .nxt ((i+1:Nat):Int) else .ret false)) (hend:f (xs.length:Int)=some (.brk (xs.length:Int))): ∀(m i k:Nat),i+m=xs.length→m<k→
   ah f k (i:Int)=some (if xs.drop i=ys.drop i then .brk (xs.length:Int) else .ret false)
 | 0,i,k,e,hk=>by
  obtain ⟨k,rfl⟩: ∃q,k=q+1:=⟨k - 1,by omega⟩
  obtain rfl:i=xs.length:=by omega
  rw[ah,hend,List.drop_of_length_le (Nat.le_refl _),List.drop_of_length_le (by omega),if_pos rfl]
 | m+1,i,k,e,hk=>by
  obtain ⟨k,rfl⟩: ∃q,k=q+1:=⟨k - 1,by omega⟩
  have hi:i<xs.length:=by omega
  have hi':i<ys.length:=by omega
  have d1:=List.drop_eq_getElem_cons hi
  have d2:=List.drop_eq_getElem_cons hi'
  rw[ah,hstep i hi hi',d1,d2]
  by_cases h:xs[i] =ys[i]
  ·rw[if_pos h]
   simp only
   rw[Yp xs ys hl hstep hend m (i+1) k (by omega) (by omega)]
   simp only[List.cons.injEq,h,true_and]
  ·rw[if_neg h]
   simp only[List.cons.injEq,h,false_and,if_false]
theorem eqL {α:Type} [DecidableEq α] {f:Int→Option (Out Bool Int)} (xs ys:List α) (hN:xs.length≤9223372036854775807)
  (hstep: ∀i (h:i<xs.length) (h':i<ys.length),f (i:Int)=some (if xs[i] =ys[i] then .nxt ((i+1:Nat):Int) else .ret false)) (hend:f (xs.length:Int)=some (.brk (xs.length:Int))) :
  (if (xs.length:Int) !=(ys.length:Int) then (some false) else (ay (ah f aC 0) (fun r=>some r) (fun s4=>some true)))=some (decide (xs=ys)):=by
 by_cases hl:xs.length=ys.length
 ·rw[if_neg (by rw[hl];simp),show ((0:Int))=((0:Nat):Int) from rfl,Yp xs ys hl hstep hend xs.length 0 aC (by omega) (kN _ hN)]
  by_cases h:xs=ys
  ·subst h;simp[ay]
  ·simp[ay,h]
 ·have:xs≠ys:=fun e=>hl (by rw[e])
  rw[if_pos (by simp;omega)];simp[this]
theorem ez {α:Type} {c d:Prop} [Decidable c] [Decidable d] {a b:α} (h:c↔d):(if c then some a else some b)=some (if d then a else b):=by
 by_cases k:c
 ·rw[if_pos k,if_pos (h.1 k)]
 ·rw[if_neg k,if_neg (fun e=>k (h.2 e))]
theorem oT {α:Type} {c d:Prop} [Decidable c] [Decidable d] {a b:α} (h:c↔ ¬d):(if c then some b else some a)=some (if d then a else b):=by
 by_cases k:d
 ·rw[if_neg (fun e=>h.1 e k),if_pos k]
 ·rw[if_pos (h.2 k),if_neg k]
theorem eqB {α:Type} [DecidableEq α] {f:Int→Option (Out Bool Int)} {K:Option Bool} (xs ys:List α) (hN:xs.length≤9223372036854775807) (hl:xs.length=ys.length)
  (hstep: ∀i (h:i<xs.length) (h':i<ys.length),f (i:Int)=some (if xs[i] =ys[i] then .nxt ((i+1:Nat):Int) else .ret false)) (hend:f (xs.length:Int)=some (.brk (xs.length:Int))) :
  ay (ah f aC 0) (fun r=>some r) (fun s4=>K)=(if xs=ys then K else some false):=by
 rw[show ((0:Int))=((0:Nat):Int) from rfl,Yp xs ys hl hstep hend xs.length 0 aC (by omega) (kN _ hN)]
 by_cases h:xs=ys
 ·subst h;simp[ay]
 ·simp[ay,h]
theorem WX {f:Int→Option (Out Int Int)} (xs ys:List Int)
  (hstep: ∀i (h:i<xs.length) (h':i<ys.length),f (i:Int)=some (if xs[i] < ys[i] then .ret (-1) else if xs[i] > ys[i] then .ret 1 else .nxt ((i+1:Nat):Int))) (hend: ∀i,xs.length≤i∨ys.length≤i→f (i:Int)=some (.brk (i:Int))): ∀(m i k:Nat),i+m=xs.length→m<k→
   (∃r,ah f k (i:Int)=some (.ret r)∧r≠0∧xs≠ys)∨ ∃s,ah f k (i:Int)=some (.brk s)∧(xs.length=ys.length→xs.drop i=ys.drop i)
 | 0,i,k,e,hk=>by
  obtain ⟨k,rfl⟩: ∃q,k=q+1:=⟨k - 1,by omega⟩
  exact .inr ⟨_,by rw[ah,hend i (.inl (by omega))],fun h=>by rw[List.drop_of_length_le (by omega),List.drop_of_length_le (by omega)]⟩
 | m+1,i,k,e,hk=>by
  obtain ⟨k,rfl⟩: ∃q,k=q+1:=⟨k - 1,by omega⟩
  have hi:i<xs.length:=by omega
  by_cases hi':i<ys.length
  ·have hne: ∀h:xs[i] ≠ys[i],xs≠ys:=fun h e=>h (by subst e;rfl)
   rw[ah,hstep i hi hi']
   by_cases h1:xs[i] < ys[i]
   ·rw[if_pos h1];exact .inl ⟨-1,rfl,by decide,hne (by omega)⟩
   ·rw[if_neg h1]
    by_cases h2:xs[i] > ys[i]
    ·rw[if_pos h2];exact .inl ⟨1,rfl,by decide,hne (by omega)⟩
    ·rw[if_neg h2]
     rcases WX xs ys hstep hend m (i+1) k (by omega) (by omega) with h | ⟨s,g1,g2⟩
     ·exact .inl h
     ·refine .inr ⟨s,g1,fun hl=>?_⟩
      have h3:xs[i] =ys[i]:=by omega
      rw[List.drop_eq_getElem_cons hi,List.drop_eq_getElem_cons hi',g2 hl,h3]
  ·exact .inr ⟨_,by rw[ah,hend i (.inr (by omega))],fun h=>by omega⟩
instance:LawfulBEq ByteArray where
 eq_of_beq {a b} h:=ByteArray.ext (eq_of_beq (show (a.data==b.data)=true from h))
 rfl {a}:=beq_self_eq_true a.data
theorem Zl {α β γ δ:Type} {a b:α×β×γ×δ} :(a.1=b.1∧a.2.1=b.2.1∧a.2.2.1=b.2.2.1∧a.2.2.2=b.2.2.2)↔a=b:=by rw[Prod.ext_iff,Prod.ext_iff,Prod.ext_iff]
theorem dH {α β:Type} (p:α×β):(p.1,p.2)=p:=rfl
theorem au {α:Type} [Data α] {xs:List α} (h:Data.sm xs):xs.length≤1048576∧ ∀x,x∈xs→Data.sm x:=h
theorem eQ {α:Type} [Data α] {xs:List α} (h:Data.lim xs):xs.length≤9223372036854775807∧ ∀x,x∈xs→Data.lim x:=h
end D
set_option synthInstance.maxSize 20000
set_option synthInstance.maxHeartbeats 2000000
namespace D
open Go.RowKit
theorem Og:JR tU:=fun xs l hl h0 h1=>szF xs (eQ hl).1 (fun _=>trivial) h0 h1
theorem JS:JR sB:=fun xs l hl h0 h1=>szF xs (eQ hl).1 (fun _=>trivial) h0 h1
theorem Oh:JR tV:=fun xs l hl h0 h1=>szL (f:=lx xs) xs (eQ hl).1 (fun i h l k0 k1=>by
 obtain ⟨r,e,hr⟩:=JS xs[i] l ((eQ hl).2 _ (List.getElem_mem h)) k0 k1
 refine ⟨r,?_,hr⟩
 simp only[lx,bw h,if_true,ak h,Option.bind_some,dH,e,aa (show i<9223372036854775807 by have:=(eQ hl).1;omega)]
 exact ez (by simp)) (fun l=>by simp only[lx,ba];rfl) h0 h1
theorem DL:JR jV:=by
 intro x l hl h0 h1
 unfold jV
 try simp only[dH]
 obtain ⟨r1,e1,k1⟩:=Og x.2.1 l hl.2.1 (by omega) (by omega)
 rw[e1];simp only[Option.bind_some]
 rcases k1 with k1 | ⟨k1,j1,s1⟩
 ·exact ⟨-1,by rw[if_pos (decide_eq_true k1)],.inl (by decide)⟩
 rw[if_neg (by simpa using k1)]
 obtain ⟨r2,e2,k2⟩:=Oh x.2.2 r1 hl.2.2 (by omega) (by omega)
 rw[e2];simp only[Option.bind_some]
 rcases k2 with k2 | ⟨k2,j2,s2⟩
 ·exact ⟨-1,by rw[if_pos (decide_eq_true k2)],.inl (by decide)⟩
 rw[if_neg (by simpa using k2)]
 exact ⟨_,rfl,.inr ⟨by omega,by omega,⟨trivial,s1,s2⟩⟩⟩
theorem Bz:JR mr:=fun xs l hl h0 h1=>szL (f:=fu xs) xs (eQ hl).1 (fun i h l k0 k1=>by
 obtain ⟨r,e,hr⟩:=DL xs[i] l ((eQ hl).2 _ (List.getElem_mem h)) k0 k1
 refine ⟨r,?_,hr⟩
 simp only[fu,bw h,if_true,ak h,Option.bind_some,dH,e,aa (show i<9223372036854775807 by have:=(eQ hl).1;omega)]
 exact ez (by simp)) (fun l=>by simp only[fu,ba];rfl) h0 h1
theorem Lx:JR ry:=fun xs l hl h0 h1=>szF xs (eQ hl).1 (fun _=>⟨trivial,trivial,trivial,trivial⟩) h0 h1
theorem Rt:JR sC:=by
 intro x l hl h0 h1
 unfold sC
 try simp only[dH]
 obtain ⟨r1,e1,k1⟩:=Lx x l hl (by omega) (by omega)
 rw[e1];simp only[Option.bind_some]
 rcases k1 with k1 | ⟨k1,j1,s1⟩
 ·exact ⟨-1,by rw[if_pos (decide_eq_true k1)],.inl (by decide)⟩
 rw[if_neg (by simpa using k1)]
 exact ⟨_,rfl,.inr ⟨by omega,by omega,s1⟩⟩
theorem BA:JR iR:=by
 intro x l hl h0 h1
 unfold iR
 try simp only[dH]
 obtain ⟨r1,e1,k1⟩:=Rt x.2.1 l hl.2.1 (by omega) (by omega)
 rw[e1];simp only[Option.bind_some]
 rcases k1 with k1 | ⟨k1,j1,s1⟩
 ·exact ⟨-1,by rw[if_pos (decide_eq_true k1)],.inl (by decide)⟩
 rw[if_neg (by simpa using k1)]
 exact ⟨_,rfl,.inr ⟨by omega,by omega,⟨trivial,s1,trivial⟩⟩⟩
theorem AG:JR kR:=fun xs l hl h0 h1=>szL (f:=eK xs) xs (eQ hl).1 (fun i h l k0 k1=>by
 obtain ⟨r,e,hr⟩:=BA xs[i] l ((eQ hl).2 _ (List.getElem_mem h)) k0 k1
 refine ⟨r,?_,hr⟩
 simp only[eK,bw h,if_true,ak h,Option.bind_some,dH,e,aa (show i<9223372036854775807 by have:=(eQ hl).1;omega)]
 exact ez (by simp)) (fun l=>by simp only[eK,ba];rfl) h0 h1
theorem Gg:JR lz:=by
 intro x l hl h0 h1
 unfold lz
 try simp only[dH]
 obtain ⟨r1,e1,k1⟩:=Bz x.1 l hl.1 (by omega) (by omega)
 rw[e1];simp only[Option.bind_some]
 rcases k1 with k1 | ⟨k1,j1,s1⟩
 ·exact ⟨-1,by rw[if_pos (decide_eq_true k1)],.inl (by decide)⟩
 rw[if_neg (by simpa using k1)]
 obtain ⟨r2,e2,k2⟩:=AG x.2 r1 hl.2 (by omega) (by omega)
 rw[e2];simp only[Option.bind_some]
 rcases k2 with k2 | ⟨k2,j2,s2⟩
 ·exact ⟨-1,by rw[if_pos (decide_eq_true k2)],.inl (by decide)⟩
 rw[if_neg (by simpa using k2)]
 exact ⟨_,rfl,.inr ⟨by omega,by omega,⟨s1,s2⟩⟩⟩
theorem Oi:Gf pX:=by
 intro xs hx
 have hn:=(au hx).1
 unfold pX
 rw[vJ (by omega)];simp only[Option.bind_some]
 rw[toL (f:=lA xs) xs (by omega) (fun ys i h hy=>by simp only[lA,bw h,if_true,ak h,ak (show i<ys.length by omega),Option.bind_some,dH,aa (show i<9223372036854775807 by omega),Int.toNat_natCast]) (fun ys hy=>by simp only[lA,ba];rfl)]
 rfl
theorem JT:Gf o7:=by
 intro xs hx
 have hn:=(au hx).1
 unfold o7
 rw[vJ (by omega)];simp only[Option.bind_some]
 rw[toL (f:=mK xs) xs (by omega) (fun ys i h hy=>by simp only[mK,bw h,if_true,ak h,ak (show i<ys.length by omega),Option.bind_some,dH,aa (show i<9223372036854775807 by omega),Int.toNat_natCast]) (fun ys hy=>by simp only[mK,ba];rfl)]
 rfl
theorem Oj:Gf pY:=by
 intro xs hx
 have hn:=(au hx).1
 unfold pY
 rw[vJ (by omega)];simp only[Option.bind_some]
 rw[toL (f:=lB xs) xs (by omega) (fun ys i h hy=>by simp only[lB,bw h,if_true,ak h,ak (show i<ys.length by omega),Option.bind_some,dH,JT xs[i] ((au hx).2 _ (List.getElem_mem h)),aa (show i<9223372036854775807 by omega),Int.toNat_natCast]) (fun ys hy=>by simp only[lB,ba];rfl)]
 rfl
theorem DM:Gf jW:=by
 intro x hx
 unfold jW
 simp only[dH,Option.bind_some,Oi x.2.1 hx.2.1,Oj x.2.2 hx.2.2]
theorem BB:Gf iS:=by
 intro xs hx
 have hn:=(au hx).1
 unfold iS
 rw[vJ (by omega)];simp only[Option.bind_some]
 rw[toL (f:=fv xs) xs (by omega) (fun ys i h hy=>by simp only[fv,bw h,if_true,ak h,ak (show i<ys.length by omega),Option.bind_some,dH,DM xs[i] ((au hx).2 _ (List.getElem_mem h)),aa (show i<9223372036854775807 by omega),Int.toNat_natCast]) (fun ys hy=>by simp only[fv,ba];rfl)]
 rfl
theorem Ol:Gf pZ:=by
 intro x hx
 unfold pZ
 simp only[dH,Option.bind_some]
theorem Ly:Gf om:=by
 intro xs hx
 have hn:=(au hx).1
 unfold om
 rw[vJ (by omega)];simp only[Option.bind_some]
 rw[toL (f:=jX xs) xs (by omega) (fun ys i h hy=>by simp only[jX,bw h,if_true,ak h,ak (show i<ys.length by omega),Option.bind_some,dH,Ol xs[i] ((au hx).2 _ (List.getElem_mem h)),aa (show i<9223372036854775807 by omega),Int.toNat_natCast]) (fun ys hy=>by simp only[jX,ba];rfl)]
 rfl
theorem Ru:Gf sD:=by
 intro x hx
 unfold sD
 simp only[dH,Option.bind_some,Ly x hx]
theorem BC:Gf iT:=by
 intro x hx
 unfold iT
 simp only[dH,Option.bind_some,Ru x.2.1 hx.2.1]
theorem AH:Gf gV:=by
 intro xs hx
 have hn:=(au hx).1
 unfold gV
 rw[vJ (by omega)];simp only[Option.bind_some]
 rw[toL (f:=eL xs) xs (by omega) (fun ys i h hy=>by simp only[eL,bw h,if_true,ak h,ak (show i<ys.length by omega),Option.bind_some,dH,BC xs[i] ((au hx).2 _ (List.getElem_mem h)),aa (show i<9223372036854775807 by omega),Int.toNat_natCast]) (fun ys hy=>by simp only[eL,ba];rfl)]
 rfl
theorem Gh:Gf eC:=by
 intro x hx
 unfold eC
 simp only[dH,Option.bind_some,BB x.1 hx.1,AH x.2 hx.2]
theorem Om:A5 tW:=fun xs ys hx hy=>eqL (f:=lC xs ys) xs ys (by have:=(au hx).1;omega) (fun i h h'=>by
 simp only[lC,bw h,if_true,ak h,ak h',Option.bind_some,dH,aa (show i<9223372036854775807 by have:=(au hx).1;omega)]
 first | exact ez (by simp) | exact oT (by simp) | exact ez (by simp[Prod.ext_iff])) (by simp only[lC,ba];rfl)
theorem JU:A5 sE:=fun xs ys hx hy=>eqL (f:=mL xs ys) xs ys (by have:=(au hx).1;omega) (fun i h h'=>by
 simp only[mL,bw h,if_true,ak h,ak h',Option.bind_some,dH,aa (show i<9223372036854775807 by have:=(au hx).1;omega)]
 first | exact ez (by simp) | exact oT (by simp) | exact ez (by simp[Prod.ext_iff])) (by simp only[mL,ba];rfl)
theorem On:A5 tX:=fun xs ys hx hy=>eqL (f:=lD xs ys) xs ys (by have:=(au hx).1;omega) (fun i h h'=>by
 simp only[lD,bw h,if_true,ak h,ak h',Option.bind_some,dH,JU xs[i] ys[i] ((au hx).2 _ (List.getElem_mem h)) ((au hy).2 _ (List.getElem_mem h')),aa (show i<9223372036854775807 by have:=(au hx).1;omega)]
 first | exact ez (by simp) | exact oT (by simp) | exact ez (by simp[Prod.ext_iff])) (by simp only[lD,ba];rfl)
theorem DN:A5 jY:=by
 intro x y hx hy
 unfold jY
 try simp only[dH,Option.bind_some,Om x.2.1 y.2.1 hx.2.1 hy.2.1,On x.2.2 y.2.2 hx.2.2 hy.2.2]
 repeat' split
 all_goals simp_all[Prod.ext_iff]
theorem BD:A5 mu:=fun xs ys hx hy=>eqL (f:=fw xs ys) xs ys (by have:=(au hx).1;omega) (fun i h h'=>by
 simp only[fw,bw h,if_true,ak h,ak h',Option.bind_some,dH,DN xs[i] ys[i] ((au hx).2 _ (List.getElem_mem h)) ((au hy).2 _ (List.getElem_mem h')),aa (show i<9223372036854775807 by have:=(au hx).1;omega)]
 first | exact ez (by simp) | exact oT (by simp) | exact ez (by simp[Prod.ext_iff])) (by simp only[fw,ba];rfl)
theorem Oo:A5 p7:=by
 intro x y hx hy
 unfold p7
 try simp only[dH,Option.bind_some]
 repeat' split
 all_goals simp_all[Prod.ext_iff]
theorem Lz:A5 rz:=fun xs ys hx hy=>eqL (f:=jZ xs ys) xs ys (by have:=(au hx).1;omega) (fun i h h'=>by
 simp only[jZ,bw h,if_true,ak h,ak h',Option.bind_some,dH,Oo xs[i] ys[i] ((au hx).2 _ (List.getElem_mem h)) ((au hy).2 _ (List.getElem_mem h')),aa (show i<9223372036854775807 by have:=(au hx).1;omega)]
 first | exact ez (by simp) | exact oT (by simp) | exact ez (by simp[Prod.ext_iff])) (by simp only[jZ,ba];rfl)
theorem Rv:A5 sF:=by
 intro x y hx hy
 unfold sF
 try simp only[dH,Option.bind_some,Lz x y hx hy]
 repeat' split
 all_goals simp_all[Prod.ext_iff]
theorem BE:A5 iU:=by
 intro x y hx hy
 unfold iU
 try simp only[dH,Option.bind_some,Rv x.2.1 y.2.1 hx.2.1 hy.2.1]
 repeat' split
 all_goals simp_all[Prod.ext_iff]
theorem AI:A5 kS:=fun xs ys hx hy=>eqL (f:=eM xs ys) xs ys (by have:=(au hx).1;omega) (fun i h h'=>by
 simp only[eM,bw h,if_true,ak h,ak h',Option.bind_some,dH,BE xs[i] ys[i] ((au hx).2 _ (List.getElem_mem h)) ((au hy).2 _ (List.getElem_mem h')),aa (show i<9223372036854775807 by have:=(au hx).1;omega)]
 first | exact ez (by simp) | exact oT (by simp) | exact ez (by simp[Prod.ext_iff])) (by simp only[eM,ba];rfl)
theorem Gi:A5 lE:=by
 intro x y hx hy
 unfold lE
 try simp only[dH,Option.bind_some,BD x.1 y.1 hx.1 hy.1,AI x.2 y.2 hx.2 hy.2]
 repeat' split
 all_goals simp_all[Prod.ext_iff]
theorem Oq:JR tY:=fun xs l hl h0 h1=>szF xs (eQ hl).1 (fun _=>⟨trivial,trivial,trivial,trivial⟩) h0 h1
theorem Ot:JR p8:=by
 intro x l hl h0 h1
 unfold p8
 try simp only[dH]
 obtain ⟨r1,e1,k1⟩:=JS x.1 l hl.1 (by omega) (by omega)
 rw[e1];simp only[Option.bind_some]
 rcases k1 with k1 | ⟨k1,j1,s1⟩
 ·exact ⟨-1,by rw[if_pos (decide_eq_true k1)],.inl (by decide)⟩
 rw[if_neg (by simpa using k1)]
 obtain ⟨r2,e2,k2⟩:=Oq x.2 r1 hl.2 (by omega) (by omega)
 rw[e2];simp only[Option.bind_some]
 rcases k2 with k2 | ⟨k2,j2,s2⟩
 ·exact ⟨-1,by rw[if_pos (decide_eq_true k2)],.inl (by decide)⟩
 rw[if_neg (by simpa using k2)]
 exact ⟨_,rfl,.inr ⟨by omega,by omega,⟨s1,s2⟩⟩⟩
theorem LA:JR rA:=fun xs l hl h0 h1=>szL (f:=j4 xs) xs (eQ hl).1 (fun i h l k0 k1=>by
 obtain ⟨r,e,hr⟩:=Ot xs[i] l ((eQ hl).2 _ (List.getElem_mem h)) k0 k1
 refine ⟨r,?_,hr⟩
 simp only[j4,bw h,if_true,ak h,Option.bind_some,dH,e,aa (show i<9223372036854775807 by have:=(eQ hl).1;omega)]
 exact ez (by simp)) (fun l=>by simp only[j4,ba];rfl) h0 h1
theorem Ii:JR mO:=by
 intro x l hl h0 h1
 unfold mO
 try simp only[dH]
 obtain ⟨r1,e1,k1⟩:=LA x.2 l hl.2 (by omega) (by omega)
 rw[e1];simp only[Option.bind_some]
 rcases k1 with k1 | ⟨k1,j1,s1⟩
 ·exact ⟨-1,by rw[if_pos (decide_eq_true k1)],.inl (by decide)⟩
 rw[if_neg (by simpa using k1)]
 exact ⟨_,rfl,.inr ⟨by omega,by omega,⟨trivial,s1⟩⟩⟩
theorem Rw:Gf sG:=by
 intro x hx
 unfold sG
 simp only[dH,Option.bind_some]
theorem Ou:Gf p9:=by
 intro xs hx
 have hn:=(au hx).1
 unfold p9
 rw[vJ (by omega)];simp only[Option.bind_some]
 rw[toL (f:=lG xs) xs (by omega) (fun ys i h hy=>by simp only[lG,bw h,if_true,ak h,ak (show i<ys.length by omega),Option.bind_some,dH,Rw xs[i] ((au hx).2 _ (List.getElem_mem h)),aa (show i<9223372036854775807 by omega),Int.toNat_natCast]) (fun ys hy=>by simp only[lG,ba];rfl)]
 rfl
theorem Ov:Gf qa:=by
 intro x hx
 unfold qa
 simp only[dH,Option.bind_some,JT x.1 hx.1,Ou x.2 hx.2]
theorem LB:Gf oo:=by
 intro xs hx
 have hn:=(au hx).1
 unfold oo
 rw[vJ (by omega)];simp only[Option.bind_some]
 rw[toL (f:=j5 xs) xs (by omega) (fun ys i h hy=>by simp only[j5,bw h,if_true,ak h,ak (show i<ys.length by omega),Option.bind_some,dH,Ov xs[i] ((au hx).2 _ (List.getElem_mem h)),aa (show i<9223372036854775807 by omega),Int.toNat_natCast]) (fun ys hy=>by simp only[j5,ba];rfl)]
 rfl
theorem Ij:Gf fy:=by
 intro x hx
 unfold fy
 simp only[dH,Option.bind_some,LB x.2 hx.2]
theorem BF:Gf dL:=by
 intro x hx
 unfold dL
 simp only[dH,Option.bind_some]
theorem BG:A5 dM:=by
 intro x y hx hy
 unfold dM
 try simp only[dH,Option.bind_some]
 repeat' split
 all_goals simp_all[Prod.ext_iff]
theorem Rx:A5 sH:=by
 intro x y hx hy
 unfold sH
 try simp only[dH,Option.bind_some]
 repeat' split
 all_goals simp_all[Prod.ext_iff]
theorem Ow:A5 tZ:=fun xs ys hx hy=>eqL (f:=lH xs ys) xs ys (by have:=(au hx).1;omega) (fun i h h'=>by
 simp only[lH,bw h,if_true,ak h,ak h',Option.bind_some,dH,Rx xs[i] ys[i] ((au hx).2 _ (List.getElem_mem h)) ((au hy).2 _ (List.getElem_mem h')),aa (show i<9223372036854775807 by have:=(au hx).1;omega)]
 first | exact ez (by simp) | exact oT (by simp) | exact ez (by simp[Prod.ext_iff])) (by simp only[lH,ba];rfl)
theorem Ox:A5 qb:=by
 intro x y hx hy
 unfold qb
 try simp only[dH,Option.bind_some,JU x.1 y.1 hx.1 hy.1,Ow x.2 y.2 hx.2 hy.2]
 repeat' split
 all_goals simp_all[Prod.ext_iff]
theorem LC:A5 rB:=fun xs ys hx hy=>eqL (f:=j6 xs ys) xs ys (by have:=(au hx).1;omega) (fun i h h'=>by
 simp only[j6,bw h,if_true,ak h,ak h',Option.bind_some,dH,Ox xs[i] ys[i] ((au hx).2 _ (List.getElem_mem h)) ((au hy).2 _ (List.getElem_mem h')),aa (show i<9223372036854775807 by have:=(au hx).1;omega)]
 first | exact ez (by simp) | exact oT (by simp) | exact ez (by simp[Prod.ext_iff])) (by simp only[j6,ba];rfl)
theorem Ik:A5 mP:=by
 intro x y hx hy
 unfold mP
 try simp only[dH,Option.bind_some,LC x.2 y.2 hx.2 hy.2]
 repeat' split
 all_goals simp_all[Prod.ext_iff]
theorem Ry:A5 sI:=by
 intro x y hx hy
 unfold sI
 try simp only[dH,Option.bind_some]
 repeat' split
 all_goals simp_all[Prod.ext_iff]
theorem Gj:A5 qc:=fun xs ys hx hy=>eqL (f:=lJ xs ys) xs ys (by have:=(au hx).1;omega) (fun i h h'=>by
 simp only[lJ,bw h,if_true,ak h,ak h',Option.bind_some,dH,Ry xs[i] ys[i] ((au hx).2 _ (List.getElem_mem h)) ((au hy).2 _ (List.getElem_mem h')),aa (show i<9223372036854775807 by have:=(au hx).1;omega)]
 first | exact ez (by simp) | exact oT (by simp) | exact ez (by simp[Prod.ext_iff])) (by simp only[lJ,ba];rfl)
theorem Oy:A5 qd:=by
 intro x y hx hy
 unfold qd
 try simp only[dH,Option.bind_some,Gj x.1 y.1 hx.1 hy.1,Gj x.2 y.2 hx.2 hy.2]
 repeat' split
 all_goals simp_all[Prod.ext_iff]
theorem Il:A5 mR:=by
 intro x y hx hy
 unfold mR
 try simp only[dH,Option.bind_some,Oy x.2.2 y.2.2 hx.2.2 hy.2.2]
 repeat' split
 all_goals simp_all[Prod.ext_iff]
theorem Gk:A5 iC:=fun xs ys hx hy=>eqL (f:=gY xs ys) xs ys (by have:=(au hx).1;omega) (fun i h h'=>by
 simp only[gY,bw h,if_true,ak h,ak h',Option.bind_some,dH,Il xs[i] ys[i] ((au hx).2 _ (List.getElem_mem h)) ((au hy).2 _ (List.getElem_mem h')),aa (show i<9223372036854775807 by have:=(au hx).1;omega)]
 first | exact ez (by simp) | exact oT (by simp) | exact ez (by simp[Prod.ext_iff])) (by simp only[gY,ba];rfl)
end D
namespace D
open Go.RowKit
theorem cm {R S:Type} {f:S→Option (Out R S)} (Inv:Nat→S→Prop) (Q:Out R S→Prop) (N:Nat)
  (h: ∀i s,i≤N→Inv i s→(i<N∧ ∃s',f s=some (.nxt s')∧Inv (i+1) s')∨ ∃o,f s=some o∧(∀s',o≠ .nxt s')∧Q o) {s:S} (h0:Inv 0 s) (hN:N<aC): ∃o,ah f aC s=some o∧Q o:=by
 have key: ∀(k i:Nat) (s:S),i≤N→N<i+k→Inv i s→ ∃o,ah f k s=some o∧Q o:=by
  intro k
  induction k with
  | zero=>intro i s h1 h2;omega
  | succ k ih =>
   intro i s h1 h2 hI
   rcases h i s h1 hI with ⟨hi,s',e,hI'⟩ | ⟨o,e,hn,hq⟩
   ·obtain ⟨o,e',hq⟩:=ih (i+1) s' (by omega) (by omega) hI'
    exact ⟨o,by rw[ah,e];exact e',hq⟩
   ·refine ⟨o,?_,hq⟩
    rw[ah,e]
    cases o with
    | nxt s'=>exact absurd rfl (hn s')
    | brk s'=>rfl
    | ret r=>rfl
 exact key aC 0 s (by omega) (by omega) h0
theorem kB {R S:Type} {f:S→Option (Out R S)} (Inv:Nat→S→Prop) (N:Nat) (h: ∀i s,i<N→Inv i s→ ∃s',f s=some (.nxt s')∧Inv (i+1) s') (he: ∀s,Inv N s→f s=some (.brk s)) {s:S} (h0:Inv 0 s) (hN:N<aC): ∃s',ah f aC s=some (.brk s')∧Inv N s':=by
 obtain ⟨o,e,s',rfl,h⟩:=cm (f:=f) Inv (fun o=> ∃s',o= .brk s'∧Inv N s') N (fun i s hi hI=>by
  by_cases h1:i<N
  ·exact .inl ⟨h1,h i s h1 hI⟩
  ·obtain rfl:i=N:=by omega
   exact .inr ⟨_,he s hI,(fun s' e=>by cases e),s,rfl,hI⟩) h0 hN
 exact ⟨s',e,h⟩
theorem aB {R S:Type} {f:S→Option (Out R S)} (st:Nat→S) (N:Nat) (h: ∀i,i<N→f (st i)=some (.nxt (st (i+1)))) (he:f (st N)=some (.brk (st N))) (hN:N<aC):ah f aC (st 0)=some (.brk (st N)):=Ge st N h he hN
theorem lU {k:Nat} (h:k≤9223372036854775807):k<aC:=kN k h
theorem vK {i:Nat} (h:i≤9223372036854775807):IntKind.i64.wrap (i:Int)=(i:Int):=cB (by omega) (by omega)
theorem nW {i:Nat} (h:i≤9223372036854775807):IntKind.i64.wrap ((i:Int) - 1)=(i:Int) - 1:=cB (by omega) (by omega)
theorem aw {α:Type} {b:Nat} {xs ys:List α} (h:(xs.length+ys.length)*b≤140737488355328):cC b xs ys=some (xs++ys):=by unfold cC;rw[if_pos h]
theorem aW {R S T:Type} {x:Option (Out R S)} {r:R} {kr:R→Option T} {k:S→Option T} (h:x=some (.ret r)):ay x kr k=kr r:=by rw[h];rfl
theorem af {R S T:Type} {x:Option (Out R S)} {s:S} {kr:R→Option T} {k:S→Option T} (h:x=some (.brk s)):ay x kr k=k s:=by rw[h];rfl
def nth {α:Type} [Inhabited α] (xs:List α) (i:Int):α:=xs.getD i.toNat default
section
variable {α:Type} [Inhabited α] {xs ys:List α}
theorem aj {i:Int} (h0:0≤i) (h1:i<xs.length):ax xs i=some (nth xs i):=by
 unfold ax nth
 rw[if_pos h0]
 have:i.toNat<xs.length:=by omega
 simp[List.getD_eq_getElem?_getD,this]
theorem bN {i:Nat} (h:i<xs.length):nth xs (i:Int)=xs[i]:=by simp[nth,List.getD_eq_getElem?_getD,h]
theorem bc {i:Int} (h0:0≤i) (h1:i<xs.length):nth xs i∈xs:=by
 have:i.toNat<xs.length:=by omega
 have e:nth xs i=xs[i.toNat]:=by simp[nth,List.getD_eq_getElem?_getD,this]
 rw[e];exact List.getElem_mem this
theorem nX {i:Int} (h0:0≤i) (h1:i<xs.length):nth (xs++ys) i=nth xs i:=by
 have:i.toNat<xs.length:=by omega
 simp[nth,List.getD_eq_getElem?_getD,List.getElem?_append_left this]
theorem U8 {β:Type} [Inhabited β] {f:α→β} {i:Int} (h0:0≤i) (h1:i<xs.length):nth (xs.map f) i=f (nth xs i):=by
 have:i.toNat<xs.length:=by omega
 simp[nth,List.getD_eq_getElem?_getD,this]
theorem DO {x:α} (h:x∈xs): ∃i:Nat,i<xs.length∧nth xs (i:Int)=x:=by
 obtain ⟨i,hi,rfl⟩:=List.getElem_of_mem h
 exact ⟨i,hi,bN hi⟩
theorem oJ {i:Int} {x:α} (h0:0≤i) (h1:i<xs.length):nth (xs.set i.toNat x) i=x:=by
 have:i.toNat<xs.length:=by omega
 simp[nth,List.getD_eq_getElem?_getD,this]
theorem sS {i j:Int} {x:α} (h0:0≤i) (hj:0≤j) (h:i≠j):nth (xs.set i.toNat x) j=nth xs j:=by
 have:i.toNat≠j.toNat:=by omega
 simp[nth,List.getD_eq_getElem?_getD,List.getElem?_set_ne this]
theorem U9 (h:xs.length=ys.length) (k: ∀i:Nat,i<xs.length→nth xs (i:Int)=nth ys (i:Int)):xs=ys:=by
 refine List.ext_getElem h fun i h1 h2=>?_
 have:=k i h1
 rwa [bN h1,bN h2] at this
end
section
variable {κ:Type} [DecidableEq κ]
def nbL (l:List κ):Option κ→List κ
 | none=>l
 | some x=>if x∈l then l else l++ [x]
def nbI (l:List κ):Option κ→Int
 | none=> -1
 | some x=>(l.idxOf x:Int)
def nbS (l:List κ) (os:List (Option κ)):List κ:=os.foldl nbL l
def nbR (l:List κ):List (Option κ)→List Int
 | [] =>[]
 | o::os=>nbI l o::nbR (nbL l o) os
theorem vL (l:List κ) (os:List (Option κ)) (o:Option κ):nbS l (os++ [o])=nbL (nbS l os) o:=by simp[nbS]
theorem sU: ∀(l:List κ) (os:List (Option κ)) (o:Option κ),nbR l (os++ [o])=nbR l os++ [nbI (nbS l os) o]
 | l,[],o=>rfl
 | l,p::os,o=>by
  show nbI l p::nbR (nbL l p) (os++ [o])=nbI l p::nbR (nbL l p) os++ [nbI (nbS (nbL l p) os) o]
  rw[sU (nbL l p) os o];rfl
theorem dS: ∀(l:List κ) (os:List (Option κ)),(nbR l os).length=os.length
 | l,[] =>rfl
 | l,o::os=>by show (nbR (nbL l o) os).length+1=_;rw[dS];rfl
theorem LD (l : List κ) (o : Option κ) : l <+: nbL l o := by
  cases o with
  | none => exact List.prefix_refl l
  | some x => unfold nbL; simp only; split
              · exact List.prefix_refl l
              · exact List.prefix_append l [x]
theorem lj: ∀(l:List κ) (os:List (Option κ)),l <+:nbS l os
 | l,[] =>List.prefix_refl l
 | l,o::os=>(LD l o).trans (lj (nbL l o) os)
theorem Oz {l : List κ} {o : Option κ} (h : l.Nodup) : (nbL l o).Nodup := by
  cases o with
  | none => exact h
  | some x => unfold nbL; simp only; split
              · exact h
              · rename_i hx; exact List.nodup_append.2 ⟨h, by simp, by rintro a ha b hb rfl; simp at hb; exact hx (hb ▸ ha)⟩
theorem rZ: ∀ {l:List κ} {os:List (Option κ)},l.Nodup→(nbS l os).Nodup
 | l,[],h=>h
 | l,o::os,h=>rZ (l:=nbL l o) (os:=os) (Oz h)
theorem OA {l : List κ} {o : Option κ} {x : κ} : x ∈ nbL l o ↔ x ∈ l ∨ o = some x := by
  cases o with
  | none => simp [nbL]
  | some y => unfold nbL; simp only; split
              · rename_i h; constructor
                · exact .inl
                · rintro (h' | h')
                  · exact h'
                  · simp at h'; exact h' ▸ h
              · simp; exact or_congr Iff.rfl eq_comm
theorem wX: ∀ {l:List κ} {os:List (Option κ)} {x:κ},x∈nbS l os↔x∈l∨some x∈os
 | l,[],x=>by simp[nbS]
 | l,o::os,x=>by
  show x∈nbS (nbL l o) os↔_
  rw[wX,OA,List.mem_cons,or_assoc]
  exact or_congr Iff.rfl (or_congr eq_comm Iff.rfl)
theorem mC {l:List κ} {x:κ} (h:x∈l):nbL l (some x)=l:=by simp[nbL,h]
theorem ln {l:List κ} {x:κ} (h:x∉l):nbL l (some x)=l++ [x]:=by simp[nbL,h]
theorem pI {l:List κ} {x:κ} (h:x∉l):l.idxOf x=l.length:=List.idxOf_eq_length h
def bfS (nx:κ→List (Option κ)) (first:κ):Nat→List κ
 | 0=>[first]
 | i+1=>match (bfS nx first i)[i]? with
  | some x=>nbS (bfS nx first i) (nx x)
  | none=>bfS nx first i
def bfR (nx:κ→List (Option κ)) (first:κ):Nat→List (List Int)
 | 0=>[]
 | i+1=>bfR nx first i++(match (bfS nx first i)[i]? with
  | some x=>[nbR (bfS nx first i) (nx x)]
  | none=>[])
variable {nx:κ→List (Option κ)} {first:κ}
theorem DP {i:Nat} (h:i<(bfS nx first i).length):bfS nx first (i+1)=nbS (bfS nx first i) (nx ((bfS nx first i)[i])):=by
 rw[bfS,List.getElem?_eq_getElem h]
theorem vM {i:Nat} (h:i<(bfS nx first i).length):bfR nx first (i+1)=bfR nx first i++ [nbR (bfS nx first i) (nx ((bfS nx first i)[i]))]:=by
 rw[bfR,List.getElem?_eq_getElem h]
theorem bm (i:Nat):bfS nx first i <+:bfS nx first (i+1):=by
 rw[bfS]
 split
 ·exact lj _ _
 ·exact List.prefix_refl _
theorem wY {i j:Nat} (h:i≤j):bfS nx first i <+:bfS nx first j:=by
 induction h with
 | refl=>exact List.prefix_refl _
 | step _ ih=>exact ih.trans (bm _)
theorem pJ: ∀i,(bfS nx first i).Nodup
 | 0=>by simp[bfS]
 | i+1=>by
  rw[bfS]
  split
  ·exact rZ (pJ i)
  ·exact pJ i
theorem lV {G:κ→Prop} (h0:G first) (h: ∀x,G x→ ∀y,some y∈nx x→G y): ∀i,∀x∈bfS nx first i,G x
 | 0=>by simp[bfS];exact h0
 | i+1=>by
  rw[bfS]
  split
  ·rename_i y hy
   intro x hx
   rcases wX.1 hx with hx | hx
   ·exact lV h0 h i x hx
   ·exact h y (lV h0 h i y (List.mem_of_getElem? hy)) x hx
  ·exact lV h0 h i
theorem Gl (i:Nat):(bfS nx first i)[0]? =some first:=by
 obtain ⟨t,ht⟩:=wY (nx:=nx) (first:=first) (Nat.zero_le i)
 rw[←ht];rfl
theorem jG: ∀ {i:Nat},(∀j,j<i→j<(bfS nx first j).length)→(bfR nx first i).length=i
 | 0,_=>rfl
 | i+1,h=>by rw[vM (h i (by omega)),List.length_append,jG fun j hj=>h j (by omega)];rfl
def bfE (nx:κ→List (Option κ)) (first:κ) (N:Nat):Prop:=N=(bfS nx first N).length∧ ∀i,i<N→i<(bfS nx first i).length
theorem SZ {B:Nat} (hB: ∀i,(bfS nx first i).length≤B): ∃N,N≤B∧bfE nx first N:=by
 have key: ∀m i,i+m=B→(∀j,j<i→j<(bfS nx first j).length)→ ∃N,N≤B∧bfE nx first N:=by
  intro m
  induction m with
  | zero =>
   intro i hi hj
   have h1:=hB i
   have h2:i≤(bfS nx first i).length:=by
    cases i with
    | zero=>omega
    | succ i =>
     have:=hj i (by omega)
     have hp:=(bm (nx:=nx) (first:=first) i).length_le
     omega
   exact ⟨i,by omega,by omega,hj⟩
  | succ m ih =>
   intro i hi hj
   by_cases h:i<(bfS nx first i).length
   ·exact ih (i+1) (by omega) fun j hj'=>by
     by_cases e:j=i
     ·subst e;exact h
     ·exact hj j (by omega)
   ·have h2:i≤(bfS nx first i).length:=by
     cases i with
     | zero=>omega
     | succ i =>
      have:=hj i (by omega)
      have hp:=(bm (nx:=nx) (first:=first) i).length_le
      omega
    exact ⟨i,by omega,by omega,hj⟩
 exact key B 0 (by omega) (by omega)
theorem Rz {N M:Nat} (h:bfE nx first N) (k:bfE nx first M):N=M:=by
 rcases Nat.lt_trichotomy N M with e | e | e
 ·have:=k.2 N e;have:=h.1;omega
 ·exact e
 ·have:=h.2 M e;have:=k.1;omega
end
end D
namespace D
open Go.RowKit
section
variable {α:Type} [Inhabited α]
def smk (mk:α→Nat):List α→Nat
 | [] =>0
 | x::xs=>mk x+smk mk xs
def mkd (mk:α→Nat) (m:α→Nat→α):List α→Nat→List α
 | [],_=>[]
 | x::xs,k=>m x k::mkd mk m xs (k+mk x)
theorem DQ (mk:α→Nat): ∀(xs:List α) (x:α),smk mk (xs++ [x])=smk mk xs+mk x
 | [],x=>by simp[smk]
 | y::xs,x=>by simp[smk,DQ mk xs x,Nat.add_assoc]
theorem DR (mk:α→Nat) (m:α→Nat→α): ∀(xs:List α) (x:α) (k:Nat),mkd mk m (xs++ [x]) k=mkd mk m xs k++ [m x (k+smk mk xs)]
 | [],x,k=>by simp[mkd,smk]
 | y::xs,x,k=>by simp[mkd,smk,DR mk m xs x,Nat.add_assoc]
theorem fU (mk:α→Nat) (m:α→Nat→α): ∀(xs:List α) (k:Nat),(mkd mk m xs k).length=xs.length
 | [],_=>rfl
 | x::xs,k=>by simp[mkd,fU mk m xs]
theorem DS (mk:α→Nat) (m:α→Nat→α): ∀(xs:List α) (k i:Nat),(mkd mk m xs k).take i=mkd mk m (xs.take i) k
 | [],_,_=>by simp[mkd]
 | x::xs,k,0=>by simp[mkd]
 | x::xs,k,i+1=>by simp[mkd,DS mk m xs]
theorem RA {xs:List α} {k:Nat} (h:k<xs.length):xs.take (k+1)=xs.take k++ [nth xs (k:Int)]:=by
 rw[List.take_succ_eq_append_getElem h,bN h]
theorem WY (mk:α→Nat) (m:α→Nat→α) (xs:List α) (k:Nat) {i:Nat} (h:i<xs.length):nth (mkd mk m xs k) (i:Int)=m (nth xs (i:Int)) (k+smk mk (xs.take i)):=by
 have h':i<(mkd mk m xs k).length:=by rw[fU];exact h
 have e:=RA h'
 rw[DS,DS,RA h,DR] at e
 have:=List.append_cancel_left e
 simpa using this.symm
theorem DT (mk:α→Nat) {xs:List α} {i:Nat} (h:i<xs.length):smk mk (xs.take (i+1))=smk mk (xs.take i)+mk (nth xs (i:Int)):=by rw[RA h,DQ]
theorem OB (mk:α→Nat): ∀(xs:List α) (i:Nat),smk mk (xs.take i)≤smk mk xs
 | [],_=>by simp
 | x::xs,0=>by simp[smk]
 | x::xs,i+1=>by simp[smk];exact OB mk xs i
theorem gQ (mk:α→Nat) {B:Nat} : ∀(xs:List α),(∀x∈xs,mk x≤B)→smk mk xs≤xs.length*B
 | [],_=>by simp[smk]
 | x::xs,h=>by
  have h1:=gQ mk xs fun y hy=>h y (by simp[hy])
  have h2:=h x (by simp)
  simp only[smk,List.length_cons,Nat.add_mul,Nat.one_mul];omega
theorem Va {xs ys:List α} {i:Nat} (hi:i<xs.length) (hl:ys.length=i) (x:α):(ys++xs.drop i).set i x=ys++ [x] ++xs.drop (i+1):=by
 rw[List.set_append_right _ _ (by omega),hl,Nat.sub_self,List.drop_eq_getElem_cons hi,List.set_cons_zero,List.append_assoc];rfl
theorem BH {R:Type} {f:List α×Int×Int→Option (Out R (List α×Int×Int))} (xs:List α) (mk:α→Nat) (m:α→Nat→α) (hN:xs.length≤9223372036854775807) {k:Nat} (hk:k+smk mk xs≤4611686018427387904)
  (hstep: ∀ys (i k:Nat),i<xs.length→ys.length=xs.length→nth ys (i:Int)=nth xs (i:Int)→k+mk (nth xs (i:Int))≤4611686018427387904→f (ys,(k:Int),(i:Int))=some (.nxt (ys.set i (m (nth xs (i:Int)) k),((k+mk (nth xs (i:Int)):Nat):Int),((i+1:Nat):Int))))
  (hend: ∀ys (k:Nat),ys.length=xs.length→f (ys,(k:Int),(xs.length:Int))=some (.brk (ys,(k:Int),(xs.length:Int)))) :
  ah f aC (xs,(k:Int),0)=some (.brk (mkd mk m xs k,((k+smk mk xs:Nat):Int),(xs.length:Int))):=by
 have hlen: ∀i,i≤xs.length→(mkd mk m (xs.take i) k++xs.drop i).length=xs.length:=fun i hi=>by
  rw[List.length_append,fU,List.length_take,List.length_drop];omega
 have:=aB (f:=f) (fun i=>(mkd mk m (xs.take i) k++xs.drop i,((k+smk mk (xs.take i):Nat):Int),(i:Int))) xs.length (fun i hi=>by
  have hl:(mkd mk m (xs.take i) k).length=i:=by rw[fU,List.length_take];omega
  have hle:=OB mk xs (i+1)
  rw[DT mk hi] at hle
  rw[hstep _ i (k+smk mk (xs.take i)) hi (hlen i (by omega)) ?_ (by omega),Va hi hl,RA hi,DR,DQ,Nat.add_assoc]
  have h':i<(mkd mk m (xs.take i) k++xs.drop i).length:=by rw[hlen i (by omega)];exact hi
  rw[bN h',bN hi,List.getElem_append_right (by omega)]
  simp[hl]) (by
  have:=hend (mkd mk m (xs.take xs.length) k++xs.drop xs.length) (k+smk mk (xs.take xs.length)) (hlen _ (Nat.le_refl _))
  exact this) (lU hN)
 simpa [mkd,smk] using this
theorem WZ {f:Int×Int→Option (Out Int (Int×Int))} (xs:List α) (mk:α→Nat) (m:α→Nat→α) (hN:xs.length≤9223372036854775807) {k:Nat} (hk:k+smk mk xs≤4611686018427387904)
  (hstep: ∀(i k':Nat),i<xs.length→nth (mkd mk m xs k) (i:Int)=m (nth xs (i:Int)) k'→k'+mk (nth xs (i:Int))≤4611686018427387904→f ((k':Int),(i:Int))=some (.nxt (((k'+mk (nth xs (i:Int)):Nat):Int),((i+1:Nat):Int))))
  (hend: ∀(k':Nat),f ((k':Int),(xs.length:Int))=some (.brk ((k':Int),(xs.length:Int)))) :
  ah f aC ((k:Int),0)=some (.brk (((k+smk mk xs:Nat):Int),(xs.length:Int))):=by
 have:=aB (f:=f) (fun i=>(((k+smk mk (xs.take i):Nat):Int),(i:Int))) xs.length (fun i hi=>by
  have hle:=OB mk xs (i+1)
  rw[DT mk hi] at hle
  rw[hstep i (k+smk mk (xs.take i)) hi (WY mk m xs k hi) (by omega),DT mk hi,Nat.add_assoc]) (hend _) (lU hN)
 simpa [smk] using this
end
end D
set_option synthInstance.maxSize 20000
set_option synthInstance.maxHeartbeats 2000000
namespace D
open Go.RowKit
theorem iP {α:Type} {xs:List α} {i:Nat} {x:α} (h:i<xs.length):ax (xs.set i x) (i:Int)=some x:=by
 rw[ak (by rw[List.length_set];exact h)];simp
theorem Zm {n:Nat} :decide ((n:Int)<0)=false:=by simp only[decide_eq_false_iff_not];omega
def kC (x:Int):Nat:=1
def JV (x:Int) (k:Nat):Int:=((k:Nat):Int)
theorem OC (xs:List Int) (hx:Data.sm xs):smk kC xs≤1048576*1:=by
 obtain ⟨h1,h2⟩:=au hx
 have b:=gQ kC (B:=1) xs (fun x hx=>by
  simp[kC])
 exact Nat.le_trans b (Nat.mul_le_mul_right _ h1)
theorem OD (xs:List Int) (hx:Data.sm xs) {k:Nat} (hk:k+smk kC xs≤4611686018427387904):l5 xs (k:Int)=some (((k+smk kC xs:Nat):Int),mkd kC JV xs k):=by
 obtain ⟨hN,hs⟩:=au hx
 unfold l5
 rw[af (BH (f:=j3) xs kC JV (by omega) hk (fun ys i k hi hl he hk=>by
  have hz0:=hs _ (bc (xs:=xs) (i:=(i:Int)) (by omega) (by omega))
  unfold j3
  have hi':i<ys.length:=by omega
  generalize hz:nth xs (i:Int)=z at *
  have hk':k+(1)≤4611686018427387904:=hk
  simp only
  rw[if_pos (by simp;omega),aj (by omega) (by omega),he]
  simp only[Option.bind_some,Int.toNat_natCast,iP hi',List.set_set,aa (show i<9223372036854775807 by omega),aa (show k<9223372036854775807 by omega)]
  have e:k+kC z=k+1:=by unfold kC;omega
  rw[e];rfl) (fun ys k hl=>by
  unfold j3
  simp only
  rw[if_neg (by simp;omega)]))]
def cn (x:Int×Int):Nat:=1+1
def uv (x:Int×Int) (k:Nat):Int×Int:=(((k:Nat):Int),((k+1:Nat):Int))
theorem JW (xs:List (Int×Int)) (hx:Data.sm xs):smk cn xs≤1048576*2:=by
 obtain ⟨h1,h2⟩:=au hx
 have b:=gQ cn (B:=2) xs (fun x hx=>by
  simp[cn])
 exact Nat.le_trans b (Nat.mul_le_mul_right _ h1)
theorem JX (xs:List (Int×Int)) (hx:Data.sm xs) {k:Nat} (hk:k+smk cn xs≤4611686018427387904):ko xs (k:Int)=some (((k+smk cn xs:Nat):Int),mkd cn uv xs k):=by
 obtain ⟨hN,hs⟩:=au hx
 unfold ko
 rw[af (BH (f:=jd) xs cn uv (by omega) hk (fun ys i k hi hl he hk=>by
  have hz0:=hs _ (bc (xs:=xs) (i:=(i:Int)) (by omega) (by omega))
  unfold jd
  have hi':i<ys.length:=by omega
  generalize hz:nth xs (i:Int)=z at *
  have hk':k+(1+1)≤4611686018427387904:=hk
  simp only
  rw[if_pos (by simp;omega),aj (by omega) (by omega),he]
  simp only[Option.bind_some,Int.toNat_natCast,iP hi',List.set_set,aa (show i<9223372036854775807 by omega),aa (show k<9223372036854775807 by omega),aa (show k+1<9223372036854775807 by omega)]
  have e:k+cn z=k+1+1:=by unfold cn;omega
  rw[e];rfl) (fun ys k hl=>by
  unfold jd
  simp only
  rw[if_neg (by simp;omega)]))]
theorem JY (xs:List (Int×Int)) (hx:Data.sm xs) {k:Nat} (hk:k+smk cn xs≤4611686018427387904):kp (mkd cn uv xs k) (k:Int)=some ((k+smk cn xs:Nat):Int):=by
 obtain ⟨hN,hs⟩:=au hx
 unfold kp
 rw[af (WZ (f:=je _) xs cn uv (by omega) hk (fun i k' hi he hk=>by
  have hz0:=hs _ (bc (xs:=xs) (i:=(i:Int)) (by omega) (by omega))
  unfold je
  generalize hz:nth xs (i:Int)=z at *
  have hk':k'+(1+1)≤4611686018427387904:=hk
  simp only
  rw[if_pos (by simp[fU];omega),aj (by omega) (by rw[fU];omega),he]
  simp only[uv,Option.bind_some,bne_self_eq_false,Bool.false_eq_true,if_false,Zm,aa (show i<9223372036854775807 by omega),aa (show k'<9223372036854775807 by omega),aa (show k'+1<9223372036854775807 by omega)]
  have e:k'+cn z=k'+1+1:=by unfold cn;omega
  rw[e]) (fun k'=>by
  unfold je
  simp only
  rw[if_neg (by simp[fU])]))]
def jt (x:Bool):Nat:=1
def Im (x:Bool) (k:Nat):Bool:=((Int.tmod ((k:Nat):Int) 3)==0)
theorem RB (xs:List Bool) (hx:Data.sm xs):smk jt xs≤1048576*1:=by
 obtain ⟨h1,h2⟩:=au hx
 have b:=gQ jt (B:=1) xs (fun x hx=>by
  simp[jt])
 exact Nat.le_trans b (Nat.mul_le_mul_right _ h1)
theorem RC (xs:List Bool) (hx:Data.sm xs) {k:Nat} (hk:k+smk jt xs≤4611686018427387904):mM xs (k:Int)=some (((k+smk jt xs:Nat):Int),mkd jt Im xs k):=by
 obtain ⟨hN,hs⟩:=au hx
 unfold mM
 rw[af (BH (f:=iV) xs jt Im (by omega) hk (fun ys i k hi hl he hk=>by
  have hz0:=hs _ (bc (xs:=xs) (i:=(i:Int)) (by omega) (by omega))
  unfold iV
  have hi':i<ys.length:=by omega
  generalize hz:nth xs (i:Int)=z at *
  have hk':k+(1)≤4611686018427387904:=hk
  simp only
  rw[if_pos (by simp;omega),aj (by omega) (by omega),he]
  simp only[Option.bind_some,Int.toNat_natCast,iP hi',List.set_set,aa (show i<9223372036854775807 by omega),aa (show k<9223372036854775807 by omega)]
  have e:k+jt z=k+1:=by unfold jt;omega
  rw[e];rfl) (fun ys k hl=>by
  unfold iV
  simp only
  rw[if_neg (by simp;omega)]))]
def lp (x:List Int):Nat:=smk kC (x)
def Io (x:List Int) (k:Nat):List Int:=mkd kC JV x k
theorem RD (xs:List (List Int)) (hx:Data.sm xs):smk lp xs≤1048576*1048576:=by
 obtain ⟨h1,h2⟩:=au hx
 have b:=gQ lp (B:=1048576) xs (fun x hx=>by
  have hs:=h2 x hx
  have q0:=OC (x) hs
  unfold lp;omega)
 exact Nat.le_trans b (Nat.mul_le_mul_right _ h1)
theorem RE (xs:List (List Int)) (hx:Data.sm xs) {k:Nat} (hk:k+smk lp xs≤4611686018427387904):mN xs (k:Int)=some (((k+smk lp xs:Nat):Int),mkd lp Io xs k):=by
 obtain ⟨hN,hs⟩:=au hx
 unfold mN
 rw[af (BH (f:=iW) xs lp Io (by omega) hk (fun ys i k hi hl he hk=>by
  have hz0:=hs _ (bc (xs:=xs) (i:=(i:Int)) (by omega) (by omega))
  unfold iW
  have hi':i<ys.length:=by omega
  generalize hz:nth xs (i:Int)=z at *
  have hk':k+(smk kC (z))≤4611686018427387904:=hk
  have m0:=OD (z) hz0 (k:=k) (by omega)
  simp only
  rw[if_pos (by simp;omega),aj (by omega) (by omega),he]
  simp only[Option.bind_some,Int.toNat_natCast,iP hi',List.set_set,aa (show i<9223372036854775807 by omega),m0]
  have e:k+lp z=k+smk kC (z):=by unfold lp;omega
  rw[e];rfl) (fun ys k hl=>by
  unfold iW
  simp only
  rw[if_neg (by simp;omega)]))]
def bU (x:Int×(List Bool)×(List (List Int))):Nat:=1+smk jt (x.2.1)+smk lp (x.2.2)
def sb (x:Int×(List Bool)×(List (List Int))) (k:Nat):Int×(List Bool)×(List (List Int)):=(((k:Nat):Int),mkd jt Im (x.2.1) (k+1),mkd lp Io (x.2.2) (k+1+smk jt (x.2.1)))
theorem DU (xs:List (Int×(List Bool)×(List (List Int)))) (hx:Data.sm xs):smk bU xs≤1048576*1099512676353:=by
 obtain ⟨h1,h2⟩:=au hx
 have b:=gQ bU (B:=1099512676353) xs (fun x hx=>by
  have hs:=h2 x hx
  have q0:=RB (x.2.1) hs.2.1
  have q1:=RD (x.2.2) hs.2.2
  unfold bU;omega)
 exact Nat.le_trans b (Nat.mul_le_mul_right _ h1)
theorem DV (xs:List (Int×(List Bool)×(List (List Int)))) (hx:Data.sm xs) {k:Nat} (hk:k+smk bU xs≤4611686018427387904):fX xs (k:Int)=some (((k+smk bU xs:Nat):Int),mkd bU sb xs k):=by
 obtain ⟨hN,hs⟩:=au hx
 unfold fX
 rw[af (BH (f:=dV) xs bU sb (by omega) hk (fun ys i k hi hl he hk=>by
  have hz0:=hs _ (bc (xs:=xs) (i:=(i:Int)) (by omega) (by omega))
  unfold dV
  have hi':i<ys.length:=by omega
  generalize hz:nth xs (i:Int)=z at *
  have hk':k+(1+smk jt (z.2.1)+smk lp (z.2.2))≤4611686018427387904:=hk
  have m0:=RC (z.2.1) hz0.2.1 (k:=k+1) (by omega)
  have m1:=RE (z.2.2) hz0.2.2 (k:=k+1+smk jt (z.2.1)) (by omega)
  simp only
  rw[if_pos (by simp;omega),aj (by omega) (by omega),he]
  simp only[Option.bind_some,Int.toNat_natCast,iP hi',List.set_set,aa (show i<9223372036854775807 by omega),aa (show k<9223372036854775807 by omega),m0,m1]
  have e:k+bU z=k+1+smk jt (z.2.1)+smk lp (z.2.2):=by unfold bU;omega
  rw[e];rfl) (fun ys k hl=>by
  unfold dV
  simp only
  rw[if_neg (by simp;omega)]))]
def fK (x:Int×Int×Int×Int):Nat:=1+1+1+1
def DW (x:Int×Int×Int×Int) (k:Nat):Int×Int×Int×Int:=(((k:Nat):Int),((k+1:Nat):Int),((k+1+1:Nat):Int),((k+1+1+1:Nat):Int))
theorem OE (xs:List (Int×Int×Int×Int)) (hx:Data.sm xs):smk fK xs≤1048576*4:=by
 obtain ⟨h1,h2⟩:=au hx
 have b:=gQ fK (B:=4) xs (fun x hx=>by
  simp[fK])
 exact Nat.le_trans b (Nat.mul_le_mul_right _ h1)
theorem OF (xs:List (Int×Int×Int×Int)) (hx:Data.sm xs) {k:Nat} (hk:k+smk fK xs≤4611686018427387904):lF xs (k:Int)=some (((k+smk fK xs:Nat):Int),mkd fK DW xs k):=by
 obtain ⟨hN,hs⟩:=au hx
 unfold lF
 rw[af (BH (f:=gW) xs fK DW (by omega) hk (fun ys i k hi hl he hk=>by
  have hz0:=hs _ (bc (xs:=xs) (i:=(i:Int)) (by omega) (by omega))
  unfold gW
  have hi':i<ys.length:=by omega
  generalize hz:nth xs (i:Int)=z at *
  have hk':k+(1+1+1+1)≤4611686018427387904:=hk
  simp only
  rw[if_pos (by simp;omega),aj (by omega) (by omega),he]
  simp only[Option.bind_some,Int.toNat_natCast,iP hi',List.set_set,aa (show i<9223372036854775807 by omega),aa (show k<9223372036854775807 by omega),aa (show k+1<9223372036854775807 by omega),aa (show k+1+1<9223372036854775807 by omega),aa (show k+1+1+1<9223372036854775807 by omega)]
  have e:k+fK z=k+1+1+1+1:=by unfold fK;omega
  rw[e];rfl) (fun ys k hl=>by
  unfold gW
  simp only
  rw[if_neg (by simp;omega)]))]
def bX (x:Int×((List (Int×Int×Int×Int)))×Int):Nat:=1+smk fK (x.2.1)+1
def qu (x:Int×((List (Int×Int×Int×Int)))×Int) (k:Nat):Int×((List (Int×Int×Int×Int)))×Int:=(((k:Nat):Int),mkd fK DW (x.2.1) (k+1),((k+1+smk fK (x.2.1):Nat):Int))
theorem BJ (xs:List (Int×((List (Int×Int×Int×Int)))×Int)) (hx:Data.sm xs):smk bX xs≤1048576*4194306:=by
 obtain ⟨h1,h2⟩:=au hx
 have b:=gQ bX (B:=4194306) xs (fun x hx=>by
  have hs:=h2 x hx
  have q0:=OE (x.2.1) hs.2.1
  unfold bX;omega)
 exact Nat.le_trans b (Nat.mul_le_mul_right _ h1)
theorem BK (xs:List (Int×((List (Int×Int×Int×Int)))×Int)) (hx:Data.sm xs) {k:Nat} (hk:k+smk bX xs≤4611686018427387904):fx xs (k:Int)=some (((k+smk bX xs:Nat):Int),mkd bX qu xs k):=by
 obtain ⟨hN,hs⟩:=au hx
 unfold fx
 rw[af (BH (f:=dD) xs bX qu (by omega) hk (fun ys i k hi hl he hk=>by
  have hz0:=hs _ (bc (xs:=xs) (i:=(i:Int)) (by omega) (by omega))
  unfold dD
  have hi':i<ys.length:=by omega
  generalize hz:nth xs (i:Int)=z at *
  have hk':k+(1+smk fK (z.2.1)+1)≤4611686018427387904:=hk
  have m0:=OF (z.2.1) hz0.2.1 (k:=k+1) (by omega)
  simp only
  rw[if_pos (by simp;omega),aj (by omega) (by omega),he]
  simp only[Option.bind_some,Int.toNat_natCast,iP hi',List.set_set,aa (show i<9223372036854775807 by omega),aa (show k<9223372036854775807 by omega),aa (show k+1+smk fK (z.2.1)<9223372036854775807 by omega),m0]
  have e:k+bX z=k+1+smk fK (z.2.1)+1:=by unfold bX;omega
  rw[e];rfl) (fun ys k hl=>by
  unfold dD
  simp only
  rw[if_neg (by simp;omega)]))]
def lq (x:Int×Int×Int×Int):Nat:=1+1+1+1
def Ip (x:Int×Int×Int×Int) (k:Nat):Int×Int×Int×Int:=(((k:Nat):Int),((k+1:Nat):Int),((k+1+1:Nat):Int),((k+1+1+1:Nat):Int))
theorem RF (xs:List (Int×Int×Int×Int)) (hx:Data.sm xs):smk lq xs≤1048576*4:=by
 obtain ⟨h1,h2⟩:=au hx
 have b:=gQ lq (B:=4) xs (fun x hx=>by
  simp[lq])
 exact Nat.le_trans b (Nat.mul_le_mul_right _ h1)
theorem RG (xs:List (Int×Int×Int×Int)) (hx:Data.sm xs) {k:Nat} (hk:k+smk lq xs≤4611686018427387904):mQ xs (k:Int)=some (((k+smk lq xs:Nat):Int),mkd lq Ip xs k):=by
 obtain ⟨hN,hs⟩:=au hx
 unfold mQ
 rw[af (BH (f:=iY) xs lq Ip (by omega) hk (fun ys i k hi hl he hk=>by
  have hz0:=hs _ (bc (xs:=xs) (i:=(i:Int)) (by omega) (by omega))
  unfold iY
  have hi':i<ys.length:=by omega
  generalize hz:nth xs (i:Int)=z at *
  have hk':k+(1+1+1+1)≤4611686018427387904:=hk
  simp only
  rw[if_pos (by simp;omega),aj (by omega) (by omega),he]
  simp only[Option.bind_some,Int.toNat_natCast,iP hi',List.set_set,aa (show i<9223372036854775807 by omega),aa (show k<9223372036854775807 by omega),aa (show k+1<9223372036854775807 by omega),aa (show k+1+1<9223372036854775807 by omega),aa (show k+1+1+1<9223372036854775807 by omega)]
  have e:k+lq z=k+1+1+1+1:=by unfold lq;omega
  rw[e];rfl) (fun ys k hl=>by
  unfold iY
  simp only
  rw[if_neg (by simp;omega)]))]
def ji (x:(List Int)×(List (Int×Int×Int×Int))):Nat:=smk kC (x.1)+smk lq (x.2)
def DX (x:(List Int)×(List (Int×Int×Int×Int))) (k:Nat):(List Int)×(List (Int×Int×Int×Int)):=(mkd kC JV (x.1) (k),mkd lq Ip (x.2) (k+smk kC (x.1)))
theorem OG (xs:List ((List Int)×(List (Int×Int×Int×Int)))) (hx:Data.sm xs):smk ji xs≤1048576*5242880:=by
 obtain ⟨h1,h2⟩:=au hx
 have b:=gQ ji (B:=5242880) xs (fun x hx=>by
  have hs:=h2 x hx
  have q0:=OC (x.1) hs.1
  have q1:=RF (x.2) hs.2
  unfold ji;omega)
 exact Nat.le_trans b (Nat.mul_le_mul_right _ h1)
theorem OH (xs:List ((List Int)×(List (Int×Int×Int×Int)))) (hx:Data.sm xs) {k:Nat} (hk:k+smk ji xs≤4611686018427387904):lI xs (k:Int)=some (((k+smk ji xs:Nat):Int),mkd ji DX xs k):=by
 obtain ⟨hN,hs⟩:=au hx
 unfold lI
 rw[af (BH (f:=gX) xs ji DX (by omega) hk (fun ys i k hi hl he hk=>by
  have hz0:=hs _ (bc (xs:=xs) (i:=(i:Int)) (by omega) (by omega))
  unfold gX
  have hi':i<ys.length:=by omega
  generalize hz:nth xs (i:Int)=z at *
  have hk':k+(smk kC (z.1)+smk lq (z.2))≤4611686018427387904:=hk
  have m0:=OD (z.1) hz0.1 (k:=k) (by omega)
  have m1:=RG (z.2) hz0.2 (k:=k+smk kC (z.1)) (by omega)
  simp only
  rw[if_pos (by simp;omega),aj (by omega) (by omega),he]
  simp only[Option.bind_some,Int.toNat_natCast,iP hi',List.set_set,aa (show i<9223372036854775807 by omega),m0,m1]
  have e:k+ji z=k+smk kC (z.1)+smk lq (z.2):=by unfold ji;omega
  rw[e];rfl) (fun ys k hl=>by
  unfold gX
  simp only
  rw[if_neg (by simp;omega)]))]
def cd (x:Int×Bool×((List (Int×Int))×(List (Int×Int)))):Nat:=1+1+smk cn (x.2.2.1)+smk cn (x.2.2.2)
def nh (x:Int×Bool×((List (Int×Int))×(List (Int×Int)))) (k:Nat):Int×Bool×((List (Int×Int))×(List (Int×Int))):=(((k:Nat):Int),((Int.tmod ((k+1:Nat):Int) 3)==0),(mkd cn uv (x.2.2.1) (k+1+1),mkd cn uv (x.2.2.2) (k+1+1+smk cn (x.2.2.1))))
theorem Iq (xs:List (Int×Bool×((List (Int×Int))×(List (Int×Int))))) (hx:Data.sm xs):smk cd xs≤1048576*4194306:=by
 obtain ⟨h1,h2⟩:=au hx
 have b:=gQ cd (B:=4194306) xs (fun x hx=>by
  have hs:=h2 x hx
  have q0:=JW (x.2.2.1) hs.2.2.1
  have q1:=JW (x.2.2.2) hs.2.2.2
  unfold cd;omega)
 exact Nat.le_trans b (Nat.mul_le_mul_right _ h1)
theorem Ir (xs:List (Int×Bool×((List (Int×Int))×(List (Int×Int))))) (hx:Data.sm xs) {k:Nat} (hk:k+smk cd xs≤4611686018427387904):fQ xs (k:Int)=some (((k+smk cd xs:Nat):Int),mkd cd nh xs k):=by
 obtain ⟨hN,hs⟩:=au hx
 unfold fQ
 rw[af (BH (f:=fH) xs cd nh (by omega) hk (fun ys i k hi hl he hk=>by
  have hz0:=hs _ (bc (xs:=xs) (i:=(i:Int)) (by omega) (by omega))
  unfold fH
  have hi':i<ys.length:=by omega
  generalize hz:nth xs (i:Int)=z at *
  have hk':k+(1+1+smk cn (z.2.2.1)+smk cn (z.2.2.2))≤4611686018427387904:=hk
  have m0:=JX (z.2.2.1) hz0.2.2.1 (k:=k+1+1) (by omega)
  have m1:=JX (z.2.2.2) hz0.2.2.2 (k:=k+1+1+smk cn (z.2.2.1)) (by omega)
  simp only
  rw[if_pos (by simp;omega),aj (by omega) (by omega),he]
  simp only[Option.bind_some,Int.toNat_natCast,iP hi',List.set_set,aa (show i<9223372036854775807 by omega),aa (show k<9223372036854775807 by omega),aa (show k+1<9223372036854775807 by omega),m0,m1]
  have e:k+cd z=k+1+1+smk cn (z.2.2.1)+smk cn (z.2.2.2):=by unfold cd;omega
  rw[e];rfl) (fun ys k hl=>by
  unfold fH
  simp only
  rw[if_neg (by simp;omega)]))]
theorem Is (xs:List (Int×Bool×((List (Int×Int))×(List (Int×Int))))) (hx:Data.sm xs) {k:Nat} (hk:k+smk cd xs≤4611686018427387904):dR (mkd cd nh xs k) (k:Int)=some ((k+smk cd xs:Nat):Int):=by
 obtain ⟨hN,hs⟩:=au hx
 unfold dR
 rw[af (WZ (f:=fI _) xs cd nh (by omega) hk (fun i k' hi he hk=>by
  have hz0:=hs _ (bc (xs:=xs) (i:=(i:Int)) (by omega) (by omega))
  unfold fI
  generalize hz:nth xs (i:Int)=z at *
  have hk':k'+(1+1+smk cn (z.2.2.1)+smk cn (z.2.2.2))≤4611686018427387904:=hk
  have m0:=JY (z.2.2.1) hz0.2.2.1 (k:=k'+1+1) (by omega)
  have m1:=JY (z.2.2.2) hz0.2.2.2 (k:=k'+1+1+smk cn (z.2.2.1)) (by omega)
  simp only
  rw[if_pos (by simp[fU];omega),aj (by omega) (by rw[fU];omega),he]
  simp only[nh,Option.bind_some,bne_self_eq_false,Bool.false_eq_true,if_false,Zm,aa (show i<9223372036854775807 by omega),aa (show k'<9223372036854775807 by omega),aa (show k'+1<9223372036854775807 by omega),m0,m1]
  have e:k'+cd z=k'+1+1+smk cn (z.2.2.1)+smk cn (z.2.2.2):=by unfold cd;omega
  rw[e]) (fun k'=>by
  unfold fI
  simp only
  rw[if_neg (by simp[fU])]))]
def jH (x:(List (Int×(List Bool)×(List (List Int))))×(List (Int×((List (Int×Int×Int×Int)))×Int))):Nat:=smk bU (x.1)+smk bX (x.2)
def LF (x:(List (Int×(List Bool)×(List (List Int))))×(List (Int×((List (Int×Int×Int×Int)))×Int))) (k:Nat):(List (Int×(List Bool)×(List (List Int))))×(List (Int×((List (Int×Int×Int×Int)))×Int)):=(mkd bU sb (x.1) (k),mkd bX qu (x.2) (k+smk bU (x.1)))
theorem Iu (x:(List (Int×(List Bool)×(List (List Int))))×(List (Int×((List (Int×Int×Int×Int)))×Int))) (hx:Data.sm x):jH x≤1152927002168131584:=by
 have q0:=DU (x.1) hx.1
 have q1:=BJ (x.2) hx.2
 unfold jH;omega
theorem Iv (x:(List (Int×(List Bool)×(List (List Int))))×(List (Int×((List (Int×Int×Int×Int)))×Int))) (hx:Data.sm x) {k:Nat} (hk:k+jH x≤4611686018427387904):iX x (k:Int)=some (((k+jH x:Nat):Int),LF x k):=by
 unfold jH at hk
 have m0:=DV (x.1) hx.1 (k:=k) (by omega)
 have m1:=BK (x.2) hx.2 (k:=k+smk bU (x.1)) (by omega)
 unfold iX
 simp only[dH,Option.bind_some,m0,m1]
 have e:k+jH x=k+smk bU (x.1)+smk bX (x.2):=by unfold jH;omega
 rw[e];rfl
def kD (x:Int×(List ((List Int)×(List (Int×Int×Int×Int))))):Nat:=smk ji (x.2)
def OI (x:Int×(List ((List Int)×(List (Int×Int×Int×Int))))) (k:Nat):Int×(List ((List Int)×(List (Int×Int×Int×Int)))):=(x.1,mkd ji DX (x.2) (k))
theorem LG (x:Int×(List ((List Int)×(List (Int×Int×Int×Int))))) (hx:Data.sm x):kD x≤5497558138880:=by
 have q0:=OG (x.2) hx.2
 unfold kD;omega
theorem LH (x:Int×(List ((List Int)×(List (Int×Int×Int×Int))))) (hx:Data.sm x) {k:Nat} (hk:k+kD x≤4611686018427387904):gq x (k:Int)=some (((k+kD x:Nat):Int),OI x k):=by
 unfold kD at hk
 have m0:=OH (x.2) hx.2 (k:=k) (by omega)
 unfold gq
 simp only[dH,Option.bind_some,m0]
 have e:k+kD x=k+smk ji (x.2):=by unfold kD;omega
 rw[e];rfl
end D
namespace D
open Go.RowKit
abbrev AutT:=Int×(List Bool)×(List (List Int))
structure VA (a:AutT) (n:Nat):Prop where
 len:a.2.1.length=n
 start:0≤a.1∧a.1<n
 nlen:a.2.2.length=n
 row: ∀r∈a.2.2,r.length=9
 ent: ∀r∈a.2.2,∀t∈r,-1≤t∧t<n
def mv (a:AutT) (s:Int) (k:Nat):Int:=nth (nth a.2.2 s) k
theorem PG (x l h:Int):c9 x l h=some (decide (l≤x∧x≤h)):=by
 unfold c9
 by_cases c:l≤x
 ·simp[c]
 ·have: ¬l≤x∧True:=⟨c,trivial⟩
  simp[c]
theorem Iw (x l h:Int):bD x l h=some (decide (l≤x∧x≤h)):=by
 unfold bD
 by_cases c:l≤x
 ·simp[c]
 ·simp[c]
theorem scan {α R:Type} [Inhabited α] {f:Int→Option (Out R Int)} (xs:List α) (p:α→Prop) [DecidablePred p] (r:R) (hN:xs.length≤9223372036854775807)
  (h: ∀i:Nat,i<xs.length→f (i:Int)=some (if p (nth xs i) then .nxt ((i+1:Nat):Int) else .ret r)) (he:f (xs.length:Int)=some (.brk (xs.length:Int))) :
  (ah f aC 0=some (.brk (xs.length:Int))∧ ∀x∈xs,p x)∨(ah f aC 0=some (.ret r)∧ ¬ ∀x∈xs,p x):=by
 obtain ⟨o,e,hq⟩:=cm (f:=f) (fun i s=>s=(i:Int)∧ ∀j:Nat,j<i→p (nth xs j)) (fun o=>(o= .brk (xs.length:Int)∧ ∀x∈xs,p x)∨(o= .ret r∧ ¬ ∀x∈xs,p x)) xs.length (s:=0) (by
  rintro i s hi ⟨rfl,hp⟩
  by_cases hl:i<xs.length
  ·by_cases c:p (nth xs i)
   ·refine .inl ⟨hl,_,by rw[h i hl,if_pos c],rfl,fun j hj=>?_⟩
    by_cases e:j=i
    ·subst e;exact c
    ·exact hp j (by omega)
   ·refine .inr ⟨_,by rw[h i hl,if_neg c],(fun s' e=>by cases e),.inr ⟨rfl,fun hx=>c (hx _ (bc (by omega) (by omega)))⟩⟩
  ·obtain rfl:i=xs.length:=by omega
   refine .inr ⟨_,he,(fun s' e=>by cases e),.inl ⟨rfl,fun x hx=>?_⟩⟩
   obtain ⟨j,hj,rfl⟩:=DO hx
   exact hp j hj) ⟨rfl,by omega⟩ (lU hN)
 rcases hq with ⟨rfl,hq⟩ | ⟨rfl,hq⟩
 ·exact .inl ⟨e,hq⟩
 ·exact .inr ⟨e,hq⟩
section
variable {a:AutT} {n:Nat} (V:VA a n)
include V
theorem VA.pos:0<n:=by have:=V.start;omega
theorem VA.rowAt {s:Int} (h0:0≤s) (h1:s<n):(nth a.2.2 s).length=9:=V.row _ (bc h0 (by rw[V.nlen];exact h1))
theorem VA.mv {s:Int} {k:Nat} (h0:0≤s) (h1:s<n) (hk:k<9): -1≤mv a s k∧mv a s k<n:=
 V.ent _ (bc h0 (by rw[V.nlen];exact h1)) _ (bc (by omega) (by rw[V.rowAt h0 h1];omega))
theorem VA.get {s:Int} (h0:0≤s) (h1:s<n):ax a.2.2 s=some (nth a.2.2 s):=aj h0 (by rw[V.nlen];exact h1)
theorem VA.get2 {s:Int} {k:Nat} (h0:0≤s) (h1:s<n) (hk:k<9):ax (nth a.2.2 s) (k:Int)=some (D.mv a s k):=aj (by omega) (by rw[V.rowAt h0 h1];omega)
theorem VA.acc {s:Int} (h0:0≤s) (h1:s<n):ax a.2.1 s=some (nth a.2.1 s):=aj h0 (by rw[V.len];exact h1)
theorem Gn {s:Int} {k:Nat} (h0:0≤s) (h1:s<n) (hk:k<9):a6 a s (k:Int)=some (mv a s k):=by
 unfold a6 jB
 rw[if_neg (by simp;omega),Iw];simp only[Option.bind_some]
 rw[if_pos (by simp;omega),V.get h0 h1];simp only[Option.bind_some]
 rw[V.get2 h0 h1 hk];rfl
end
end D
namespace D
open Go.RowKit
abbrev Tok:=Int×Int×Int×Int
def ar (t:Tok):Int:=
 if t.1=1∨t.1=2 then (if t.2.1=0∧t.2.2.1=0∧t.2.2.2=0 then 0 else -1)
 else if t.1=3 then (if (0≤t.2.1∧t.2.1≤8)∧t.2.2.1=0∧t.2.2.2=0 then 0 else -1)
 else if t.1=4∨t.1=5 then (if t.2.1=0∧t.2.2.1=0∧t.2.2.2=0 then 2 else -1)
 else if t.1=6 then (if t.2.1=0∧t.2.2.1=0∧t.2.2.2=0 then 1 else -1)
 else if t.1=7 then (if t.2.1=0∧(0≤t.2.2.1∧t.2.2.1≤t.2.2.2)∧(1≤t.2.2.2∧t.2.2.2≤3) then 1 else -1)
 else -1
theorem RH (x:Int):ot x=some (decide (0≤x∧x≤8)):=by unfold ot;rw[PG];rfl
theorem RI (x:Int):jB x=some (decide (0≤x∧x≤8)):=by unfold jB;rw[Iw];rfl
theorem Zn (t:Tok):nw t=some (ar t):=by
 obtain ⟨k,l,lo,hi⟩:=t
 unfold nw ar
 simp only[RH,PG,Option.bind_some]
 by_cases h1:k=1
 ·subst h1;simp;grind
 by_cases h2:k=2
 ·subst h2;simp;grind
 by_cases h3:k=3
 ·subst h3;simp;grind
 by_cases h4:k=4
 ·subst h4;simp;grind
 by_cases h5:k=5
 ·subst h5;simp;grind
 by_cases h6:k=6
 ·subst h6;simp;grind
 by_cases h7:k=7
 ·subst h7;simp;grind
 simp[h1,h2,h3,h4,h5,h6,h7]
theorem W0 (t:Tok):qi t=some (decide (0≤ar t)):=by
 obtain ⟨k,l,lo,hi⟩:=t
 unfold qi ar
 simp only[RI,Iw,Option.bind_some]
 by_cases h1:k=1
 ·subst h1;simp;grind
 by_cases h2:k=2
 ·subst h2;simp;grind
 by_cases h3:k=3
 ·subst h3;simp only[]
  by_cases a:0≤l∧l≤8 <;> by_cases b:lo=0 <;> by_cases c:hi=0 <;> simp[a,b,c]
 by_cases h4:k=4
 ·subst h4;simp;grind
 by_cases h5:k=5
 ·subst h5;simp;grind
 by_cases h6:k=6
 ·subst h6;simp;grind
 by_cases h7:k=7
 ·subst h7;simp only[]
  by_cases a:l=0 <;> by_cases b:0≤lo∧lo≤hi <;> by_cases c:1≤hi∧hi≤3 <;> simp[a,b,c]
 simp[h1,h2,h3,h4,h5,h6,h7]
theorem vN (t:Tok): -1≤ar t∧ar t≤2:=by
 unfold ar
 grind
theorem nY {t:Tok} (h:0≤ar t):(ar t=2∧(t.1=4∨t.1=5))∨(ar t=1∧(t.1=6∨t.1=7))∨(ar t=0∧(t.1=1∨t.1=2∨t.1=3)):=by
 unfold ar at h⊢
 grind
theorem AJ {t:Tok} (h:0≤ar t) (k:t.1=7):(0≤t.2.2.1∧t.2.2.1≤t.2.2.2)∧(1≤t.2.2.2∧t.2.2.2≤3):=by
 unfold ar at h
 grind
mutual
def flat:Tr Tok→List Tok
 | .nil=>[]
 | .node t ks=>ju ks++ [t]
def ju:List (Tr Tok)→List Tok
 | [] =>[]
 | k::ks=>flat k++ju ks
end
inductive WT:Tr Tok→Prop
 | node {t:Tok} {ks:List (Tr Tok)} :ar t=(ks.length:Int)→(∀k,k∈ks→WT k)→WT (.node t ks)
theorem pK: ∀(a b:List (Tr Tok)),ju (a++b)=ju a++ju b
 | [],b=>rfl
 | k::a,b=>by rw[List.cons_append,ju,ju,pK a b,List.append_assoc]
theorem mj (x:Tr Tok):ju [x] =flat x:=by rw[ju,ju,List.append_nil]
theorem OJ (x y:Tr Tok):ju [x,y] =flat x++flat y:=by rw[ju,mj]
theorem WT.cases {x:Tr Tok} (h:WT x):(∃t,x= .node t [] ∧ar t=0)∨(∃t a,x= .node t [a] ∧ar t=1∧WT a)∨ ∃t a b,x= .node t [a,b] ∧ar t=2∧WT a∧WT b:=by
 cases h with
 | @node t ks h1 h2 =>
  have:=(vN t).2
  match ks,h1,h2 with
  | [],h1,h2=>exact .inl ⟨t,rfl,h1⟩
  | [a],h1,h2=>exact .inr (.inl ⟨t,a,rfl,h1,h2 a (by simp)⟩)
  | [a,b],h1,h2=>exact .inr (.inr ⟨t,a,b,rfl,h1,h2 a (by simp),h2 b (by simp)⟩)
  | _::_::_::_,h1,h2=>simp at h1;omega
theorem WT.ind {p:Tr Tok→Prop} (h0: ∀t,ar t=0→p (.node t [])) (h1: ∀t a,ar t=1→WT a→p a→p (.node t [a])) (h2: ∀t a b,ar t=2→WT a→WT b→p a→p b→p (.node t [a,b])) {x:Tr Tok} (h:WT x):p x:=by
 induction h with
 | @node t ks e k ih =>
  have:=(vN t).2
  match ks,e,k,ih with
  | [],e,k,ih=>exact h0 t e
  | [a],e,k,ih=>exact h1 t a e (k a (by simp)) (ih a (by simp))
  | [a,b],e,k,ih=>exact h2 t a b e (k a (by simp)) (k b (by simp)) (ih a (by simp)) (ih b (by simp))
  | _::_::_::_,e,_,_=>simp at e;omega
theorem BL (t:Tok):flat (.node t [])= [t]:=by rw[flat,ju];rfl
theorem DY (t:Tok) (a:Tr Tok):flat (.node t [a])=flat a++ [t]:=by rw[flat,mj]
theorem uw (t:Tok) (a b:Tr Tok):flat (.node t [a,b])=(flat a++flat b)++ [t]:=by rw[flat,OJ]
theorem WT.pos {x:Tr Tok} (h:WT x):1≤(flat x).length:=by
 cases h with
 | node h1 h2=>rw[flat];simp
def stp (s:List (Tr Tok)) (t:Tok):Option (List (Tr Tok)):=if ar t<0∨(s.length:Int)<ar t then none else some (s.take (s.length - (ar t).toNat)++ [.node t (s.drop (s.length - (ar t).toNat))])
def run:List (Tr Tok)→List Tok→Option (List (Tr Tok))
 | s,[] =>some s
 | s,t::l=>(stp s t).bind fun s'=>run s' l
theorem DZ: ∀(a:List Tok) {b:List Tok} {s:List (Tr Tok)},run s (a++b)=(run s a).bind fun s'=>run s' b
 | [],b,s=>rfl
 | t::a,b,s=>by
  rw[List.cons_append,run,run]
  cases stp s t with
  | none=>rfl
  | some s'=>exact DZ a
theorem vO {a:List Tok} {t:Tok} {s:List (Tr Tok)} :run s (a++ [t])=(run s a).bind fun s'=>stp s' t:=by
 rw[DZ]
 congr 1
 funext s'
 rw[run]
 cases stp s' t <;> rfl
theorem S4: ∀ {l:List Tok} {s s':List (Tr Tok)},run s l=some s'→(∀k,k∈s→WT k)→(∀k,k∈s'→WT k)∧ju s'=ju s++l
 | [],s,s',h,hs=>by
  obtain rfl:=Option.some.inj h
  exact ⟨hs,by simp⟩
 | t::l,s,s',h,hs=>by
  rw[run] at h
  unfold stp at h
  by_cases c:ar t<0∨(s.length:Int)<ar t
  ·rw[if_pos c] at h;cases h
  ·rw[if_neg c] at h
   have hlen:(s.drop (s.length - (ar t).toNat)).length=(ar t).toNat:=by rw[List.length_drop];omega
   obtain ⟨k1,k2⟩:=S4 (show run _ l=some s' from h) fun k hk=>by
    rcases List.mem_append.1 hk with hk | hk
    ·exact hs k (List.mem_of_mem_take hk)
    ·obtain rfl:=List.mem_singleton.1 hk
     exact .node (by rw[hlen];omega) fun k hk=>hs k (List.mem_of_mem_drop hk)
   refine ⟨k1,?_⟩
   rw[k2,pK,mj,flat,←List.append_assoc,←pK,List.take_append_drop]
   simp
theorem RJ {x:Tr Tok} (h:WT x): ∀s,run s (flat x)=some (s++ [x]):=by
 refine WT.ind (p:=fun x=> ∀s,run s (flat x)=some (s++ [x])) ?_ ?_ ?_ h
 ·intro t e s
  rw[BL,run,stp,if_neg (by omega),e]
  simp[run]
 ·intro t a e _ ia s
  rw[DY,vO,ia]
  show stp (s++ [a]) t=_
  rw[stp,if_neg (by simp;omega),e]
  simp
 ·intro t a b e _ _ ia ib s
  rw[uw,vO,DZ,ia]
  show ((run (s++ [a]) (flat b)).bind fun s'=>stp s' t)=_
  rw[ib]
  show stp (s++ [a] ++ [b]) t=_
  rw[stp,if_neg (by simp;omega),e]
  have:(s++ [a] ++ [b]).length - (2:Int).toNat=s.length:=by simp
  rw[this]
  simp
def isX (e:List Tok):Bool:=match run [] e with
 | some [_] =>true
 | _=>false
theorem OK {e:List Tok} (h:isX e=true): ∃x,run [] e=some [x] ∧WT x∧flat x=e:=by
 unfold isX at h
 split at h
 ·rename_i x hx
  obtain ⟨k1,k2⟩:=S4 hx (fun k hk=>by cases hk)
  refine ⟨x,hx,k1 x (by simp),?_⟩
  rw[mj] at k2
  rw[k2];rfl
 ·cases h
theorem OL {l:List Tok} : ∀ {s s':List (Tr Tok)},run s l=some s'→s'.length≤s.length+l.length:=by
 induction l with
 | nil=>intro s s' h;obtain rfl:=Option.some.inj h;simp
 | cons t l ih =>
  intro s s' h
  rw[run] at h
  obtain ⟨s1,h1,h2⟩:=Option.bind_eq_some_iff.1 h
  have h3:=ih h2
  unfold stp at h1
  split at h1
  ·cases h1
  ·obtain rfl:=Option.some.inj h1
   simp only[List.length_append,List.length_take,List.length_cons,List.length_nil] at h3⊢
   omega
theorem AK {e:List Tok} {i:Nat} (h:i<e.length):e.take (i+1)=e.take i++ [nth e (i:Int)]:=by
 rw[List.take_succ_eq_append_getElem h,bN h]
theorem yA {e:List Tok} {i:Nat} (h:i<e.length) {st:List (Tr Tok)} (h1:run [] (e.take i)=some st) (h2:stp st (nth e (i:Int))=none):run [] e=none:=by
 have:run [] (e.take (i+1))=none:=by rw[AK h,vO,h1];exact h2
 rw[←List.take_append_drop (i+1) e,DZ,this];rfl
theorem RK {e:List Tok} (he:e.length≤1048576):sJ e=some (isX e):=by
 obtain ⟨o,eo,hq⟩:=cm (f:=qe e) (fun i s=> ∃st,s=((st.length:Int),(i:Int))∧run [] (e.take i)=some st) (fun o=>(o= .ret false∧run [] e=none)∨ ∃st,o= .brk ((st.length:Int),(e.length:Int))∧run [] e=some st) e.length (s:=(0,0)) (by
  rintro i s hi ⟨st,rfl,hst⟩
  have hl:=OL hst
  simp only[List.length_nil,List.length_take] at hl
  unfold qe
  simp only[dH]
  by_cases c:i<e.length
  ·rw[if_pos (by simp;omega),aj (by omega) (by omega)];simp only[Option.bind_some]
   rw[Zn];simp only[Option.bind_some]
   have hr:=vN (nth e (i:Int))
   by_cases c1:ar (nth e (i:Int))<0
   ·refine .inr ⟨_,by rw[if_pos (by simpa using c1)],(fun s' e=>by cases e),.inl ⟨rfl,yA c hst ?_⟩⟩
    rw[stp,if_pos (.inl c1)]
   ·rw[if_neg (by simpa using c1)]
    by_cases c2:ar (nth e (i:Int))>(st.length:Int)
    ·refine .inr ⟨_,by rw[if_pos (by simpa using c2)],(fun s' e=>by cases e),.inl ⟨rfl,yA c hst ?_⟩⟩
     rw[stp,if_pos (.inr c2)]
    ·rw[if_neg (by simpa using c2)]
     refine .inl ⟨c,_,rfl,st.take (st.length - (ar (nth e (i:Int))).toNat)++ [.node (nth e (i:Int)) (st.drop (st.length - (ar (nth e (i:Int))).toNat))],?_,?_⟩
     ·rw[cB (n:=(st.length:Int) - ar (nth e (i:Int))) (by omega) (by omega),cB (by omega) (by omega),aa (by omega)]
      congr 1
      simp only[List.length_append,List.length_take,List.length_cons,List.length_nil]
      omega
     ·rw[AK c,vO,hst]
      show stp st _=_
      rw[stp,if_neg (by omega)]
  ·obtain rfl:i=e.length:=by omega
   rw[List.take_of_length_le (by omega)] at hst
   exact .inr ⟨_,by rw[if_neg (by simp)],(fun s' e=>by cases e),.inr ⟨st,rfl,hst⟩⟩) ⟨[],rfl,rfl⟩ (lU (by omega))
 unfold sJ
 rcases hq with ⟨rfl,h⟩ | ⟨st,rfl,h⟩
 ·rw[aW eo];unfold isX;rw[h]
 ·rw[af eo];unfold isX;rw[h]
  match st with
  | [] =>rfl
  | [_] =>rfl
  | _::_::_=>simp;omega
theorem Yq {t:Tok} (h:0≤ar t):(Option.bind ((if t.1==4 then (some (t.1==4)) else (some (t.1==5)):Option Bool)) (fun s3=>if s3 then (some 2) else (Option.bind ((if t.1==6 then (some (t.1==6)) else (some (t.1==7)):Option Bool)) (fun s4=>if s4 then (some 1) else (some 0)))):Option Int)=some (ar t):=by
 rcases nY h with ⟨e,k | k⟩ | ⟨e,k | k⟩ | ⟨e,k | k | k⟩ <;> rw[e] <;> simp[k]
theorem Vc (t:Tok): ∃n:Int,(Option.bind ((if t.1==4 then (some (t.1==4)) else (some (t.1==5)):Option Bool)) (fun s3=>if s3 then (some 2) else (Option.bind ((if t.1==6 then (some (t.1==6)) else (some (t.1==7)):Option Bool)) (fun s4=>if s4 then (some 1) else (some 0)))):Option Int)=some n:=by
 by_cases h4:t.1=4
 ·exact ⟨2,by simp[h4]⟩
 by_cases h5:t.1=5
 ·exact ⟨2,by simp[h5]⟩
 by_cases h6:t.1=6
 ·exact ⟨1,by simp[h6]⟩
 by_cases h7:t.1=7
 ·exact ⟨1,by simp[h7]⟩
 exact ⟨0,by simp[h4,h5,h6,h7]⟩
def yi (e:List Tok):Tr Tok:=match run [] e with
 | some [x] =>x
 | _=>.nil
theorem D0 {e:List Tok} (he:e.length≤1048576):ng e=some (yi e):=by
 obtain ⟨o,eo,hq⟩:=cm (f:=qj e) (fun i s=> ∃st,s=(st,(i:Int))∧run [] (e.take i)=some st) (fun o=>(o= .ret Tr.nil∧run [] e=none)∨ ∃st,o= .brk (st,(e.length:Int))∧run [] e=some st) e.length (s:=([],0)) (by
  rintro i s hi ⟨st,rfl,hst⟩
  have hl:=OL hst
  simp only[List.length_nil,List.length_take] at hl
  unfold qj
  simp only[dH]
  by_cases c:i<e.length
  ·rw[if_pos (by simp;omega),aj (by omega) (by omega)];simp only[Option.bind_some]
   have hr:=vN (nth e (i:Int))
   by_cases c1:ar (nth e (i:Int))<0
   ·obtain ⟨n,hn⟩:=Vc (nth e (i:Int))
    rw[hn];simp only[Option.bind_some]
    rw[W0];simp only[Option.bind_some]
    refine .inr ⟨_,by rw[if_neg (by simp;omega)],(fun s' e=>by cases e),.inl ⟨rfl,yA c hst ?_⟩⟩
    rw[stp,if_pos (.inl c1)]
   ·rw[Yq (by omega)];simp only[Option.bind_some]
    rw[W0];simp only[Option.bind_some]
    rw[if_pos (by simp;omega),cB (n:=(st.length:Int) - ar (nth e (i:Int))) (by omega) (by omega)]
    by_cases c2:ar (nth e (i:Int))>(st.length:Int)
    ·refine .inr ⟨_,by rw[if_pos (by simp;omega)],(fun s' e=>by cases e),.inl ⟨rfl,yA c hst ?_⟩⟩
     rw[stp,if_pos (.inr c2)]
    ·rw[if_neg (by simp;omega),show∀p:Prop,∀ [Decidable p],p→chk p=some () from fun p _ hp=>by unfold chk;rw[if_pos hp]]
     ·simp only[Option.bind_some]
      have e1:((st.length:Int) - ar (nth e (i:Int))).toNat=st.length - (ar (nth e (i:Int))).toNat:=by omega
      rw[e1,aw (by simp;omega)];simp only[Option.bind_some]
      rw[aw (by simp;omega)];simp only[Option.bind_some,List.nil_append,aa (show i<9223372036854775807 by omega)]
      refine .inl ⟨c,_,rfl,_,rfl,?_⟩
      rw[AK c,vO,hst]
      show stp st _=_
      rw[stp,if_neg (by omega)]
     ·omega
  ·obtain rfl:i=e.length:=by omega
   rw[List.take_of_length_le (by omega)] at hst
   exact .inr ⟨_,by rw[if_neg (by simp)],(fun s' e=>by cases e),.inr ⟨st,rfl,hst⟩⟩) ⟨[],rfl,rfl⟩ (lU (by omega))
 unfold ng
 rcases hq with ⟨rfl,h⟩ | ⟨st,rfl,h⟩
 ·rw[aW eo];unfold yi;rw[h]
 ·rw[af eo];unfold yi;rw[h]
  match st with
  | [] =>rfl
  | [x] =>rfl
  | _::_::_ =>
   simp only
   rw[if_pos (by simp;omega)]
theorem wZ {x:Tr Tok} (h:WT x):yi (flat x)=x:=by unfold yi;rw[RJ h];rfl
theorem RL {e:List Tok} (he:e.length≤1048576):sM e=some (isX e):=by
 unfold sM
 rw[D0 he];simp only[Option.bind_some]
 congr 1
 by_cases h:isX e=true
 ·rw[h]
  obtain ⟨x,h1,h2,h3⟩:=OK h
  have:yi e=x:=by unfold yi;rw[h1]
  rw[this]
  cases h2 with
  | node _ _=>rfl
 ·have:yi e= .nil:=by
   unfold yi
   unfold isX at h
   split
   ·rename_i x hx;rw[hx] at h;exact absurd rfl h
   ·rfl
  rw[this,Bool.eq_false_iff.2 h];rfl
theorem Ix {e:List Tok} (he:e.length≤1048576):j7 e=some (decide (e.length≤24)&&isX e):=by
 unfold j7
 rw[RK he]
 by_cases c:e.length≤24
 ·rw[if_pos (by simp;omega)];simp[c]
 ·rw[if_neg (by simp;omega)];simp[c]
theorem Iy {e:List Tok} (he:e.length≤1048576):kc e=some (decide (e.length≤24)&&isX e):=by
 unfold kc
 rw[RL he]
 by_cases c:e.length≤24
 ·rw[if_pos (by simp;omega)];simp[c]
 ·rw[if_neg (by simp;omega)];simp[c]
theorem mH {p:Prop} [Decidable p] (h:p):chk p=some ():=by unfold chk;rw[if_pos h]
theorem Vd {A:List Tok} {x:Tr Tok} (hx:WT x) (hl:(A++flat x).length≤1000000):gr (A++flat x)=some (A.length:Int):=by
 obtain ⟨s',e,ks,q1,q2,q3⟩: ∃s',ah (lK (A++flat x)) aC (1,((A++flat x).length:Int))=some (.brk s')∧ ∃ks:List (Tr Tok),ks= [] ∧s'.2=(A.length:Int)∧True:=by
  obtain ⟨o,eo,hq⟩:=cm (f:=lK (A++flat x)) (fun i s=> ∃ks:List (Tr Tok),(∀k,k∈ks→WT k)∧s=((ks.length:Int),(((A++ju ks).length:Nat):Int))∧i+(ju ks).length=(flat x).length∧(A++flat x).take (A++ju ks).length=A++ju ks) (fun o=> ∃s',o= .brk s'∧s'.2=(A.length:Int)) (flat x).length (s:=(1,((A++flat x).length:Int))) (by
   rintro i s hi ⟨ks,hw,rfl,hlen,htk⟩
   unfold lK
   simp only[dH]
   rcases List.eq_nil_or_concat ks with rfl | ⟨ks',y,rfl⟩
   ·refine .inr ⟨_,by rw[if_neg (by simp)],(fun s' e=>by cases e),_,rfl,?_⟩
    simp[ju]
   ·have hy:=hw y (by simp)
    cases hy with
    | @node t cs h1 h2 =>
     have hfl:ju (ks'++ [.node t cs])=ju (ks'++cs)++ [t]:=by rw[pK,mj,flat,pK,List.append_assoc]
     rw[List.concat_eq_append,hfl] at hlen htk⊢
     simp only[List.length_append,List.length_cons,List.length_nil] at hlen htk hl⊢
     rw[if_pos (by simp <;> omega)]
     have hpos:IntKind.i64.wrap (((A.length+((ju (ks'++cs)).length+1):Nat):Int) - 1)=((A.length+(ju (ks'++cs)).length:Nat):Int):=by
      rw[cB (by omega) (by omega)];omega
     have hget:nth (A++flat x) ((A.length+(ju (ks'++cs)).length:Nat):Int)=t:=by
      have hlt:A.length+(ju (ks'++cs)).length<(A++flat x).length:=by rw[List.length_append];omega
      have e1:=congrArg (fun l:List Tok=>l[A.length+(ju (ks'++cs)).length]?) htk
      rw[List.getElem?_take_of_lt (by omega),List.getElem?_eq_getElem hlt,←List.append_assoc,List.getElem?_append_right (by rw[List.length_append];omega),List.length_append] at e1
      rw[bN hlt]
      simpa using e1
     rw[hpos,aj (by omega) (by simp only[List.length_append];omega),hget];simp only[Option.bind_some]
     rw[Zn,h1];simp only[Option.bind_some]
     have hcl:(cs.length:Int)≤2:=by rw[←h1];exact (vN t).2
     have hkl:ks'.length≤(ju (ks'++cs)).length+1000000:=by
      have: ∀l:List (Tr Tok),(∀k,k∈l→WT k)→l.length≤(ju l).length:=by
       intro l
       induction l with
       | nil=>intro _;simp
       | cons k l ih =>
        intro h
        have h1:=(h k (by simp)).pos
        have h2:=ih fun k hk=>h k (by simp[hk])
        rw[ju];simp only[List.length_cons,List.length_append];omega
      have:=this ks' fun k hk=>hw k (by simp[hk])
      rw[pK,List.length_append];omega
     refine .inl ⟨by omega,_,rfl,ks'++cs,fun k hk=>?_,?_,by omega,?_⟩
     ·rcases List.mem_append.1 hk with hk | hk
      ·exact hw k (by simp[hk])
      ·exact h2 k hk
     ·rw[cB (n:=((ks'.length+1:Nat):Int) - 1) (by omega) (by omega),cB (by omega) (by omega)]
      congr 1
      (simp only[List.length_append]) <;> omega
     ·have e1:=congrArg (List.take (A++ju (ks'++cs)).length) htk
      rw[List.take_take,Nat.min_eq_left (by rw[List.length_append];omega),←List.append_assoc,List.take_left] at e1
      rw[List.length_append] at e1
      exact e1) ⟨[x],fun k hk=>by (obtain rfl:=List.mem_singleton.1 hk;exact hx),by rw[mj];rfl,by rw[mj];omega,by rw[mj,List.take_length]⟩ (lU (by rw[List.length_append] at hl;omega))
  obtain ⟨s',rfl,h2⟩:=hq
  exact ⟨s',eo,[],rfl,h2,trivial⟩
 unfold gr
 rw[af e,q2]
end D
end Go.Proofs.YtakjhbbbjbebdaaGreat
