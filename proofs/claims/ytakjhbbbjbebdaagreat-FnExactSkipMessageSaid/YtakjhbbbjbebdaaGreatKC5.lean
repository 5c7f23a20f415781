/- FnExactSkipMessage: for every input the law returns true and changes nothing that was there. Part 6 of 8. -/
import Derived.Test.YtakjhbbbjbebdaaGreatKC4
set_option linter.unusedVariables false
set_option linter.unusedSimpArgs false
set_option linter.unnecessarySimpa false
set_option linter.unusedSectionVars false
set_option maxRecDepth 1000000
namespace Go.Proofs.YtakjhbbbjbebdaaGreat
namespace R
open Go.RowKit
open D
abbrev y3:Ty:=.int .i64
abbrev xf:Ty:=.prod y3 (.prod y3 (.prod y3 y3))
abbrev t263:Ty:=.tree 294 263 xf
abbrev sH:Ty:=.prod y3 y3
abbrev y4:Ty:=.bool
abbrev y89:Ty:=.sl 4 y4
abbrev y26:Ty:=.sl 3 y3
abbrev y90:Ty:=.sl 26 y26
abbrev XC:Ty:=.prod y3 (.prod y89 y90)
abbrev X8:Ty:=.prod y3 (.prod y3 (.prod y3 y3))
abbrev XD:Ty:=.sl 232 X8
abbrev XE:Ty:=.wr XD
abbrev XF:Ty:=.prod y3 (.prod XE y3)
abbrev KU:Ty:=.sl 188 xf
abbrev sI:Ty:=.wr KU
abbrev FC:Ty:=.prod y3 (.prod sI y3)
abbrev LM:Ty:=.prod y3 (.prod y3 (.prod y3 y3))
abbrev X9:Ty:=.prod y3 (.prod y3 (.prod y3 y3))
abbrev UV:Ty:=.prod y3 y4
abbrev WB:Ty:=.prod UV (.prod y3 y3)
abbrev Y3:Ty:=.sl 205 WB
abbrev y22:Ty:=.sl 133 XC
abbrev JA:Ty:=.prod y26 (.prod y3 (.prod y3 (.prod y26 y4)))
abbrev Y4:Ty:=.sl 203 UV
abbrev y23:Ty:=.sl 139 XF
abbrev Y5:Ty:=.prod UV (.prod y3 y3)
abbrev Ya:Ty:=.sl 240 Y5
abbrev Y6:Ty:=.sl 238 Ya
abbrev WC:Ty:=.int .u64
abbrev y25:Ty:=.prod y22 y23
abbrev Y7:Ty:=.prod y4 (.prod y3 y3)
abbrev Y8:Ty:=.prod y3 (.prod y3 y4)
abbrev Yb:Ty:=.fro t263
abbrev y27:Ty:=.sl 156 X9
abbrev WD:Ty:=.int .u32
abbrev WE:Ty:=.int .u64
abbrev y29:Ty:=.prod y26 y27
abbrev XG:Ty:=.sl 263 Yb
abbrev Zo:Ty:=.prod xf XG
abbrev y32:Ty:=.sl 103 sH
abbrev y92:Ty:=.prod y3 (.prod y89 y90)
abbrev y35:Ty:=.sl 92 y92
abbrev y36:Ty:=.sl 146 FC
abbrev y38:Ty:=.prod y35 y36
abbrev y40:Ty:=.sl 150 LM
abbrev y42:Ty:=.prod y26 y40
abbrev y51:Ty:=.sl 29 y29
abbrev y53:Ty:=.prod y3 y51
abbrev y55:Ty:=.prod y3 (.prod y3 y3)
abbrev y58:Ty:=.prod y32 y32
abbrev y60:Ty:=.prod y3 (.prod y4 y58)
abbrev y61:Ty:=.prod y3 (.prod y3 y3)
abbrev y64:Ty:=.sl 42 y42
abbrev y66:Ty:=.prod y3 y64
theorem ti3:TI Tryz.prog 3 false 1:=⟨⟨_,Tryz.underlying3,rfl⟩,by kernel_rfl⟩
theorem WG (a0:Int) (a1:Int) (b0:Int) (b1:Int) (w:World):EqT Tryz.prog 103 (.agg #[.int .i64 a0,.int .i64 a1]) (.agg #[.int .i64 b0,.int .i64 b1]) ((a0==b0)&&((a1==b1)&&true)) w:=R7 w Tryz.underlying103 (by kernel_rfl) (by kernel_rfl) (rZ rfl (qi ti3 rfl) (qi ti3 rfl) (run_equalIn_int w 9998 3 _ _ _ _ Tryz.underlying3) (rZ rfl (qi ti3 rfl) (qi ti3 rfl) (run_equalIn_int w 9998 3 _ _ _ _ Tryz.underlying3) (L7 w)))
theorem WH (a0:Int) (a1:Int) (a2:Int) (a3:Int) (b0:Int) (b1:Int) (b2:Int) (b3:Int) (w:World):EqT Tryz.prog 188 (.agg #[.int .i64 a0,.int .i64 a1,.int .i64 a2,.int .i64 a3]) (.agg #[.int .i64 b0,.int .i64 b1,.int .i64 b2,.int .i64 b3]) ((a0==b0)&&((a1==b1)&&((a2==b2)&&((a3==b3)&&true)))) w:=R7 w Tryz.underlying188 (by kernel_rfl) (by kernel_rfl) (rZ rfl (qi ti3 rfl) (qi ti3 rfl) (run_equalIn_int w 9998 3 _ _ _ _ Tryz.underlying3) (rZ rfl (qi ti3 rfl) (qi ti3 rfl) (run_equalIn_int w 9998 3 _ _ _ _ Tryz.underlying3) (rZ rfl (qi ti3 rfl) (qi ti3 rfl) (run_equalIn_int w 9998 3 _ _ _ _ Tryz.underlying3) (rZ rfl (qi ti3 rfl) (qi ti3 rfl) (run_equalIn_int w 9998 3 _ _ _ _ Tryz.underlying3) (L7 w)))))
theorem mz3 (w:World):(zeroValue 3).run Tryz.prog w= .ok (.int .i64 0) w:=by kernel_rfl
theorem kk3:KeyOk Tryz.prog 3 (fun n:Int=>Value.int .i64 n) TN iOk:=VY Tryz.underlying3
theorem ek3:EltOk Tryz.prog 3 (fun n:Int=>Value.int .i64 n) TN iOk 0:=VZ Tryz.underlying3 mz3
def tt:TT:=[(3,⟨false,1,none,y3,[],some 8,none,false,none,none,some (some .i64),false,none⟩),
 (4,⟨false,1,none,y4,[],some 1,none,true,none,none,none,false,none⟩),
 (22,⟨false,1,some 133,y22,[],some 24,none,false,none,none,none,false,none⟩),
 (23,⟨false,1,some 139,y23,[],some 24,none,false,none,none,none,false,none⟩),
 (25,⟨true,2,none,y25,[(0,0),(1,0)],some 48,some [(0,1),(1,1)],false,none,none,none,false,none⟩),
 (26,⟨false,1,some 3,y26,[],some 24,none,false,none,none,none,false,none⟩),
 (27,⟨false,1,some 156,y27,[],some 24,none,false,none,none,none,false,none⟩),
 (29,⟨true,2,none,y29,[(0,0),(1,0)],some 48,some [(0,1),(1,1)],false,none,none,none,false,none⟩),
 (32,⟨false,1,some 103,y32,[],some 24,none,false,none,none,none,false,none⟩),
 (35,⟨false,1,some 92,y35,[],some 24,none,false,none,none,none,false,none⟩),
 (36,⟨false,1,some 146,y36,[],some 24,none,false,none,none,none,false,none⟩),
 (38,⟨true,2,none,y38,[(0,0),(1,0)],some 48,some [(0,1),(1,1)],false,none,none,none,false,none⟩),
 (40,⟨false,1,some 150,y40,[],some 24,none,false,none,none,none,false,none⟩),
 (42,⟨true,2,none,y42,[(0,0),(1,0)],some 48,some [(0,1),(1,1)],false,none,none,none,false,none⟩),
 (51,⟨false,1,some 29,y51,[],some 24,none,false,none,none,none,false,none⟩),
 (53,⟨true,2,none,y53,[(0,0),(1,0)],some 32,some [(0,1),(1,1)],false,none,none,none,false,none⟩),
 (55,⟨true,3,none,y55,[(0,0),(1,0),(2,0)],some 24,some [(0,1),(1,1),(2,1)],false,none,none,none,false,none⟩),
 (58,⟨true,2,none,y58,[(0,0),(1,0)],some 48,some [(0,1),(1,1)],false,none,none,none,false,none⟩),
 (60,⟨true,4,none,y60,[(0,0),(1,0),(2,1)],some 64,some [(0,1),(1,1),(2,2)],false,none,none,none,false,none⟩),
 (61,⟨true,3,none,y61,[(0,0),(1,0),(2,0)],some 24,some [(0,1),(1,1),(2,1)],false,none,none,none,false,none⟩),
 (64,⟨false,1,some 42,y64,[],some 24,none,false,none,none,none,false,none⟩),
 (66,⟨true,2,none,y66,[(0,0),(1,0)],some 32,some [(0,1),(1,1)],false,none,none,none,false,none⟩),
 (89,⟨false,1,some 4,y89,[],some 24,none,false,none,none,none,false,none⟩),
 (90,⟨false,1,some 26,y90,[],some 24,none,false,none,none,none,false,none⟩),
 (92,⟨true,3,none,y92,[(0,0),(1,0),(2,0)],some 56,some [(0,1),(1,1),(2,1)],false,none,none,none,false,none⟩),
 (103,⟨true,2,none,sH,[(0,0),(1,0)],some 16,some [(0,1),(1,1)],false,some [some .i64,some .i64],none,none,false,none⟩),
 (106,⟨false,1,none,.bool,[],none,none,false,none,none,none,true,none⟩),
 (133,⟨true,3,none,XC,[(0,0),(1,0),(2,0)],some 56,some [(0,1),(1,1),(2,1)],false,none,none,none,false,none⟩),
 (135,⟨false,1,some 232,XD,[],some 24,none,false,none,none,none,false,none⟩),
 (137,⟨true,1,none,XE,[(0,0)],some 24,some [(0,1)],false,none,none,none,false,none⟩),
 (139,⟨true,3,none,XF,[(0,0),(1,0),(2,0)],some 40,some [(0,1),(1,1),(2,1)],false,none,none,none,false,none⟩),
 (142,⟨false,1,some 188,KU,[],some 24,none,false,none,none,none,false,none⟩),
 (144,⟨true,1,none,sI,[(0,0)],some 24,some [(0,1)],false,none,none,none,false,none⟩),
 (146,⟨true,3,none,FC,[(0,0),(1,0),(2,0)],some 40,some [(0,1),(1,1),(2,1)],false,none,none,none,false,none⟩),
 (150,⟨true,4,none,LM,[(0,0),(1,0),(2,0),(3,0)],some 32,some [(0,1),(1,1),(2,1),(3,1)],false,none,none,none,false,none⟩),
 (156,⟨true,4,none,X9,[(0,0),(1,0),(2,0),(3,0)],some 32,some [(0,1),(1,1),(2,1),(3,1)],false,none,none,none,false,none⟩),
 (159,⟨false,1,none,.bool,[],none,none,false,none,none,none,true,none⟩),
 (160,⟨false,1,none,.bool,[],none,none,false,none,none,none,true,none⟩),
 (176,⟨false,1,none,.bool,[],none,none,false,none,none,none,true,none⟩),
 (182,⟨false,1,none,.bool,[],none,none,false,none,none,none,true,none⟩),
 (188,⟨true,4,none,xf,[(0,0),(1,0),(2,0),(3,0)],some 32,some [(0,1),(1,1),(2,1),(3,1)],false,some [some .i64,some .i64,some .i64,some .i64],none,none,false,none⟩),
 (195,⟨false,1,none,.bool,[],none,none,false,none,none,none,true,none⟩),
 (200,⟨false,1,some 205,Y3,[],some 24,none,false,none,none,none,false,none⟩),
 (203,⟨true,2,none,UV,[(0,0),(1,0)],some 16,some [(0,1),(1,1)],false,none,none,none,false,none⟩),
 (205,⟨true,4,none,WB,[(0,1),(2,0),(3,0)],some 32,some [(0,2),(2,1),(3,1)],false,none,none,none,false,none⟩),
 (218,⟨false,1,none,.bool,[],none,none,false,none,none,none,true,none⟩),
 (224,⟨true,5,none,JA,[(0,0),(1,0),(2,0),(3,0),(4,0)],some 72,some [(0,1),(1,1),(2,1),(3,1),(4,1)],false,none,none,none,false,none⟩),
 (228,⟨false,1,some 203,Y4,[],some 24,none,false,none,none,none,false,none⟩),
 (232,⟨true,4,none,X8,[(0,0),(1,0),(2,0),(3,0)],some 32,some [(0,1),(1,1),(2,1),(3,1)],false,none,none,none,false,none⟩),
 (236,⟨false,1,some 238,Y6,[],some 24,none,false,none,none,none,false,none⟩),
 (238,⟨false,1,some 240,Ya,[],some 24,none,false,none,none,none,false,none⟩),
 (240,⟨true,4,none,Y5,[(0,1),(2,0),(3,0)],some 32,some [(0,2),(2,1),(3,1)],false,none,none,none,false,none⟩),
 (244,⟨false,1,none,WC,[],some 8,none,false,none,none,some (some .u64),false,none⟩),
 (252,⟨true,3,none,Y7,[(0,0),(1,0),(2,0)],some 24,some [(0,1),(1,1),(2,1)],false,none,none,none,false,none⟩),
 (261,⟨true,3,none,Y8,[(0,0),(1,0),(2,0)],some 24,some [(0,1),(1,1),(2,1)],false,none,none,none,false,none⟩),
 (263,⟨false,1,none,Yb,[],some 8,none,false,none,none,none,false,some 294⟩),
 (266,⟨false,1,none,.bool,[],none,none,false,none,none,none,true,none⟩),
 (267,⟨false,1,none,.bool,[],none,none,false,none,none,none,true,none⟩),
 (281,⟨false,1,none,WD,[],some 4,none,false,none,none,some (some .u32),false,none⟩),
 (283,⟨false,1,none,WE,[],some 8,none,false,none,none,some (some .u64),false,none⟩),
 (292,⟨false,1,some 263,XG,[],some 24,none,false,none,none,none,false,none⟩),
 (294,⟨true,5,none,Zo,[(0,3),(4,0)],some 56,some [(0,4),(4,1)],false,none,none,none,false,none⟩),
 (298,⟨false,1,none,.bool,[],none,none,false,none,some ⟨3,3,.int,.int⟩,none,false,none⟩),
 (300,⟨false,1,none,.bool,[],none,none,false,none,none,none,true,none⟩),
 (333,⟨false,1,none,.bool,[],none,none,false,none,none,none,true,none⟩)]
theorem ak:TTok Tryz.prog tt:=⟨zo (n:=1) (z:=.int .i64 0) ⟨⟨_,Tryz.underlying3,rfl⟩,by kernel_rfl⟩ rfl (by unfold TZ;kernel_rfl) rfl (Nat.le_of_ble_eq_true rfl) (fun h=>by cases h) (fun k h=>by obtain rfl:=Option.some.inj h;exact Tryz.underlying3),
 zo (n:=1) (z:=.bool false) ⟨⟨_,Tryz.underlying4,rfl⟩,by kernel_rfl⟩ rfl (by unfold TZ;kernel_rfl) rfl (Nat.le_of_ble_eq_true rfl) (fun h=>Tryz.underlying4) (fun k h=>by cases h),
 pK ⟨⟨_,Tryz.underlying22,rfl⟩,by kernel_rfl⟩ Tryz.underlying22 (by unfold TZ;kernel_rfl),
 pK ⟨⟨_,Tryz.underlying23,rfl⟩,by kernel_rfl⟩ Tryz.underlying23 (by unfold TZ;kernel_rfl),
 kB (z:=.agg #[.slice none 0 0,.slice none 0 0]) ⟨⟨_,Tryz.underlying25,rfl⟩,by kernel_rfl⟩ rfl ⟨⟨_,_,Tryz.underlying25,rfl,rfl,by kernel_rfl⟩,⟨_,_,Tryz.underlying25,rfl,rfl,by kernel_rfl⟩,trivial⟩ (by unfold TZ;kernel_rfl) rfl (Nat.le_of_ble_eq_true rfl) ⟨_,Tryz.underlying25,by kernel_rfl⟩ (fun ks h=>by cases h),
 pK ⟨⟨_,Tryz.underlying26,rfl⟩,by kernel_rfl⟩ Tryz.underlying26 (by unfold TZ;kernel_rfl),
 pK ⟨⟨_,Tryz.underlying27,rfl⟩,by kernel_rfl⟩ Tryz.underlying27 (by unfold TZ;kernel_rfl),
 kB (z:=.agg #[.slice none 0 0,.slice none 0 0]) ⟨⟨_,Tryz.underlying29,rfl⟩,by kernel_rfl⟩ rfl ⟨⟨_,_,Tryz.underlying29,rfl,rfl,by kernel_rfl⟩,⟨_,_,Tryz.underlying29,rfl,rfl,by kernel_rfl⟩,trivial⟩ (by unfold TZ;kernel_rfl) rfl (Nat.le_of_ble_eq_true rfl) ⟨_,Tryz.underlying29,by kernel_rfl⟩ (fun ks h=>by cases h),
 pK ⟨⟨_,Tryz.underlying32,rfl⟩,by kernel_rfl⟩ Tryz.underlying32 (by unfold TZ;kernel_rfl),
 pK ⟨⟨_,Tryz.underlying35,rfl⟩,by kernel_rfl⟩ Tryz.underlying35 (by unfold TZ;kernel_rfl),
 pK ⟨⟨_,Tryz.underlying36,rfl⟩,by kernel_rfl⟩ Tryz.underlying36 (by unfold TZ;kernel_rfl),
 kB (z:=.agg #[.slice none 0 0,.slice none 0 0]) ⟨⟨_,Tryz.underlying38,rfl⟩,by kernel_rfl⟩ rfl ⟨⟨_,_,Tryz.underlying38,rfl,rfl,by kernel_rfl⟩,⟨_,_,Tryz.underlying38,rfl,rfl,by kernel_rfl⟩,trivial⟩ (by unfold TZ;kernel_rfl) rfl (Nat.le_of_ble_eq_true rfl) ⟨_,Tryz.underlying38,by kernel_rfl⟩ (fun ks h=>by cases h),
 pK ⟨⟨_,Tryz.underlying40,rfl⟩,by kernel_rfl⟩ Tryz.underlying40 (by unfold TZ;kernel_rfl),
 kB (z:=.agg #[.slice none 0 0,.slice none 0 0]) ⟨⟨_,Tryz.underlying42,rfl⟩,by kernel_rfl⟩ rfl ⟨⟨_,_,Tryz.underlying42,rfl,rfl,by kernel_rfl⟩,⟨_,_,Tryz.underlying42,rfl,rfl,by kernel_rfl⟩,trivial⟩ (by unfold TZ;kernel_rfl) rfl (Nat.le_of_ble_eq_true rfl) ⟨_,Tryz.underlying42,by kernel_rfl⟩ (fun ks h=>by cases h),
 pK ⟨⟨_,Tryz.underlying51,rfl⟩,by kernel_rfl⟩ Tryz.underlying51 (by unfold TZ;kernel_rfl),
 kB (z:=.agg #[.int .i64 0,.slice none 0 0]) ⟨⟨_,Tryz.underlying53,rfl⟩,by kernel_rfl⟩ rfl ⟨⟨_,_,Tryz.underlying53,rfl,rfl,by kernel_rfl⟩,⟨_,_,Tryz.underlying53,rfl,rfl,by kernel_rfl⟩,trivial⟩ (by unfold TZ;kernel_rfl) rfl (Nat.le_of_ble_eq_true rfl) ⟨_,Tryz.underlying53,by kernel_rfl⟩ (fun ks h=>by cases h),
 kB (z:=.agg #[.int .i64 0,.int .i64 0,.int .i64 0]) ⟨⟨_,Tryz.underlying55,rfl⟩,by kernel_rfl⟩ rfl ⟨⟨_,_,Tryz.underlying55,rfl,rfl,by kernel_rfl⟩,⟨_,_,Tryz.underlying55,rfl,rfl,by kernel_rfl⟩,⟨_,_,Tryz.underlying55,rfl,rfl,by kernel_rfl⟩,trivial⟩ (by unfold TZ;kernel_rfl) rfl (Nat.le_of_ble_eq_true rfl) ⟨_,Tryz.underlying55,by kernel_rfl⟩ (fun ks h=>by cases h),
 kB (z:=.agg #[.slice none 0 0,.slice none 0 0]) ⟨⟨_,Tryz.underlying58,rfl⟩,by kernel_rfl⟩ rfl ⟨⟨_,_,Tryz.underlying58,rfl,rfl,by kernel_rfl⟩,⟨_,_,Tryz.underlying58,rfl,rfl,by kernel_rfl⟩,trivial⟩ (by unfold TZ;kernel_rfl) rfl (Nat.le_of_ble_eq_true rfl) ⟨_,Tryz.underlying58,by kernel_rfl⟩ (fun ks h=>by cases h),
 kB (z:=.agg #[.int .i64 0,.bool false,.slice none 0 0,.slice none 0 0]) ⟨⟨_,Tryz.underlying60,rfl⟩,by kernel_rfl⟩ rfl ⟨⟨_,_,Tryz.underlying60,rfl,rfl,by kernel_rfl⟩,⟨_,_,Tryz.underlying60,rfl,rfl,by kernel_rfl⟩,⟨_,_,Tryz.underlying60,rfl,rfl,by kernel_rfl⟩,trivial⟩ (by unfold TZ;kernel_rfl) rfl (Nat.le_of_ble_eq_true rfl) ⟨_,Tryz.underlying60,by kernel_rfl⟩ (fun ks h=>by cases h),
 kB (z:=.agg #[.int .i64 0,.int .i64 0,.int .i64 0]) ⟨⟨_,Tryz.underlying61,rfl⟩,by kernel_rfl⟩ rfl ⟨⟨_,_,Tryz.underlying61,rfl,rfl,by kernel_rfl⟩,⟨_,_,Tryz.underlying61,rfl,rfl,by kernel_rfl⟩,⟨_,_,Tryz.underlying61,rfl,rfl,by kernel_rfl⟩,trivial⟩ (by unfold TZ;kernel_rfl) rfl (Nat.le_of_ble_eq_true rfl) ⟨_,Tryz.underlying61,by kernel_rfl⟩ (fun ks h=>by cases h),
 pK ⟨⟨_,Tryz.underlying64,rfl⟩,by kernel_rfl⟩ Tryz.underlying64 (by unfold TZ;kernel_rfl),
 kB (z:=.agg #[.int .i64 0,.slice none 0 0]) ⟨⟨_,Tryz.underlying66,rfl⟩,by kernel_rfl⟩ rfl ⟨⟨_,_,Tryz.underlying66,rfl,rfl,by kernel_rfl⟩,⟨_,_,Tryz.underlying66,rfl,rfl,by kernel_rfl⟩,trivial⟩ (by unfold TZ;kernel_rfl) rfl (Nat.le_of_ble_eq_true rfl) ⟨_,Tryz.underlying66,by kernel_rfl⟩ (fun ks h=>by cases h),
 pK ⟨⟨_,Tryz.underlying89,rfl⟩,by kernel_rfl⟩ Tryz.underlying89 (by unfold TZ;kernel_rfl),
 pK ⟨⟨_,Tryz.underlying90,rfl⟩,by kernel_rfl⟩ Tryz.underlying90 (by unfold TZ;kernel_rfl),
 kB (z:=.agg #[.int .i64 0,.slice none 0 0,.slice none 0 0]) ⟨⟨_,Tryz.underlying92,rfl⟩,by kernel_rfl⟩ rfl ⟨⟨_,_,Tryz.underlying92,rfl,rfl,by kernel_rfl⟩,⟨_,_,Tryz.underlying92,rfl,rfl,by kernel_rfl⟩,⟨_,_,Tryz.underlying92,rfl,rfl,by kernel_rfl⟩,trivial⟩ (by unfold TZ;kernel_rfl) rfl (Nat.le_of_ble_eq_true rfl) ⟨_,Tryz.underlying92,by kernel_rfl⟩ (fun ks h=>by cases h),
 kB (z:=.agg #[.int .i64 0,.int .i64 0]) ⟨⟨_,Tryz.underlying103,rfl⟩,by kernel_rfl⟩ rfl ⟨⟨_,_,Tryz.underlying103,rfl,rfl,by kernel_rfl⟩,⟨_,_,Tryz.underlying103,rfl,rfl,by kernel_rfl⟩,trivial⟩ (by unfold TZ;kernel_rfl) rfl (Nat.le_of_ble_eq_true rfl) ⟨_,Tryz.underlying103,by kernel_rfl⟩ (fun ks h=>by obtain rfl:=Option.some.inj h;exact fun w a0 b0 a1 b1=>WG a0 a1 b0 b1 w),
 zp (ty:=.bool) (b:=8) ⟨⟨_,Tryz.underlying106,rfl⟩,by kernel_rfl⟩ rfl (by unfold TZ;kernel_rfl),
 kB (z:=.agg #[.int .i64 0,.slice none 0 0,.slice none 0 0]) ⟨⟨_,Tryz.underlying133,rfl⟩,by kernel_rfl⟩ rfl ⟨⟨_,_,Tryz.underlying133,rfl,rfl,by kernel_rfl⟩,⟨_,_,Tryz.underlying133,rfl,rfl,by kernel_rfl⟩,⟨_,_,Tryz.underlying133,rfl,rfl,by kernel_rfl⟩,trivial⟩ (by unfold TZ;kernel_rfl) rfl (Nat.le_of_ble_eq_true rfl) ⟨_,Tryz.underlying133,by kernel_rfl⟩ (fun ks h=>by cases h),
 pK ⟨⟨_,Tryz.underlying135,rfl⟩,by kernel_rfl⟩ Tryz.underlying135 (by unfold TZ;kernel_rfl),
 kB (z:=.agg #[.slice none 0 0]) ⟨⟨_,Tryz.underlying137,rfl⟩,by kernel_rfl⟩ rfl ⟨⟨_,_,Tryz.underlying137,rfl,rfl,by kernel_rfl⟩,trivial⟩ (by unfold TZ;kernel_rfl) rfl (Nat.le_of_ble_eq_true rfl) ⟨_,Tryz.underlying137,by kernel_rfl⟩ (fun ks h=>by cases h),
 kB (z:=.agg #[.int .i64 0,.slice none 0 0,.int .i64 0]) ⟨⟨_,Tryz.underlying139,rfl⟩,by kernel_rfl⟩ rfl ⟨⟨_,_,Tryz.underlying139,rfl,rfl,by kernel_rfl⟩,⟨_,_,Tryz.underlying139,rfl,rfl,by kernel_rfl⟩,⟨_,_,Tryz.underlying139,rfl,rfl,by kernel_rfl⟩,trivial⟩ (by unfold TZ;kernel_rfl) rfl (Nat.le_of_ble_eq_true rfl) ⟨_,Tryz.underlying139,by kernel_rfl⟩ (fun ks h=>by cases h),
 pK ⟨⟨_,Tryz.underlying142,rfl⟩,by kernel_rfl⟩ Tryz.underlying142 (by unfold TZ;kernel_rfl),
 kB (z:=.agg #[.slice none 0 0]) ⟨⟨_,Tryz.underlying144,rfl⟩,by kernel_rfl⟩ rfl ⟨⟨_,_,Tryz.underlying144,rfl,rfl,by kernel_rfl⟩,trivial⟩ (by unfold TZ;kernel_rfl) rfl (Nat.le_of_ble_eq_true rfl) ⟨_,Tryz.underlying144,by kernel_rfl⟩ (fun ks h=>by cases h),
 kB (z:=.agg #[.int .i64 0,.slice none 0 0,.int .i64 0]) ⟨⟨_,Tryz.underlying146,rfl⟩,by kernel_rfl⟩ rfl ⟨⟨_,_,Tryz.underlying146,rfl,rfl,by kernel_rfl⟩,⟨_,_,Tryz.underlying146,rfl,rfl,by kernel_rfl⟩,⟨_,_,Tryz.underlying146,rfl,rfl,by kernel_rfl⟩,trivial⟩ (by unfold TZ;kernel_rfl) rfl (Nat.le_of_ble_eq_true rfl) ⟨_,Tryz.underlying146,by kernel_rfl⟩ (fun ks h=>by cases h),
 kB (z:=.agg #[.int .i64 0,.int .i64 0,.int .i64 0,.int .i64 0]) ⟨⟨_,Tryz.underlying150,rfl⟩,by kernel_rfl⟩ rfl ⟨⟨_,_,Tryz.underlying150,rfl,rfl,by kernel_rfl⟩,⟨_,_,Tryz.underlying150,rfl,rfl,by kernel_rfl⟩,⟨_,_,Tryz.underlying150,rfl,rfl,by kernel_rfl⟩,⟨_,_,Tryz.underlying150,rfl,rfl,by kernel_rfl⟩,trivial⟩ (by unfold TZ;kernel_rfl) rfl (Nat.le_of_ble_eq_true rfl) ⟨_,Tryz.underlying150,by kernel_rfl⟩ (fun ks h=>by cases h),
 kB (z:=.agg #[.int .i64 0,.int .i64 0,.int .i64 0,.int .i64 0]) ⟨⟨_,Tryz.underlying156,rfl⟩,by kernel_rfl⟩ rfl ⟨⟨_,_,Tryz.underlying156,rfl,rfl,by kernel_rfl⟩,⟨_,_,Tryz.underlying156,rfl,rfl,by kernel_rfl⟩,⟨_,_,Tryz.underlying156,rfl,rfl,by kernel_rfl⟩,⟨_,_,Tryz.underlying156,rfl,rfl,by kernel_rfl⟩,trivial⟩ (by unfold TZ;kernel_rfl) rfl (Nat.le_of_ble_eq_true rfl) ⟨_,Tryz.underlying156,by kernel_rfl⟩ (fun ks h=>by cases h),
 zp (ty:=.bool) (b:=8) ⟨⟨_,Tryz.underlying159,rfl⟩,by kernel_rfl⟩ rfl (by unfold TZ;kernel_rfl),
 zp (ty:=.bool) (b:=8) ⟨⟨_,Tryz.underlying160,rfl⟩,by kernel_rfl⟩ rfl (by unfold TZ;kernel_rfl),
 zp (ty:=.bool) (b:=8) ⟨⟨_,Tryz.underlying176,rfl⟩,by kernel_rfl⟩ rfl (by unfold TZ;kernel_rfl),
 zp (ty:=.bool) (b:=8) ⟨⟨_,Tryz.underlying182,rfl⟩,by kernel_rfl⟩ rfl (by unfold TZ;kernel_rfl),
 kB (z:=.agg #[.int .i64 0,.int .i64 0,.int .i64 0,.int .i64 0]) ⟨⟨_,Tryz.underlying188,rfl⟩,by kernel_rfl⟩ rfl ⟨⟨_,_,Tryz.underlying188,rfl,rfl,by kernel_rfl⟩,⟨_,_,Tryz.underlying188,rfl,rfl,by kernel_rfl⟩,⟨_,_,Tryz.underlying188,rfl,rfl,by kernel_rfl⟩,⟨_,_,Tryz.underlying188,rfl,rfl,by kernel_rfl⟩,trivial⟩ (by unfold TZ;kernel_rfl) rfl (Nat.le_of_ble_eq_true rfl) ⟨_,Tryz.underlying188,by kernel_rfl⟩ (fun ks h=>by obtain rfl:=Option.some.inj h;exact fun w a0 b0 a1 b1 a2 b2 a3 b3=>WH a0 a1 a2 a3 b0 b1 b2 b3 w),
 zp (ty:=.bool) (b:=8) ⟨⟨_,Tryz.underlying195,rfl⟩,by kernel_rfl⟩ rfl (by unfold TZ;kernel_rfl),
 pK ⟨⟨_,Tryz.underlying200,rfl⟩,by kernel_rfl⟩ Tryz.underlying200 (by unfold TZ;kernel_rfl),
 kB (z:=.agg #[.int .i64 0,.bool false]) ⟨⟨_,Tryz.underlying203,rfl⟩,by kernel_rfl⟩ rfl ⟨⟨_,_,Tryz.underlying203,rfl,rfl,by kernel_rfl⟩,⟨_,_,Tryz.underlying203,rfl,rfl,by kernel_rfl⟩,trivial⟩ (by unfold TZ;kernel_rfl) rfl (Nat.le_of_ble_eq_true rfl) ⟨_,Tryz.underlying203,by kernel_rfl⟩ (fun ks h=>by cases h),
 kB (z:=.agg #[.int .i64 0,.bool false,.int .i64 0,.int .i64 0]) ⟨⟨_,Tryz.underlying205,rfl⟩,by kernel_rfl⟩ rfl ⟨⟨_,_,Tryz.underlying205,rfl,rfl,by kernel_rfl⟩,⟨_,_,Tryz.underlying205,rfl,rfl,by kernel_rfl⟩,⟨_,_,Tryz.underlying205,rfl,rfl,by kernel_rfl⟩,trivial⟩ (by unfold TZ;kernel_rfl) rfl (Nat.le_of_ble_eq_true rfl) ⟨_,Tryz.underlying205,by kernel_rfl⟩ (fun ks h=>by cases h),
 zp (ty:=.bool) (b:=8) ⟨⟨_,Tryz.underlying218,rfl⟩,by kernel_rfl⟩ rfl (by unfold TZ;kernel_rfl),
 kB (z:=.agg #[.slice none 0 0,.int .i64 0,.int .i64 0,.slice none 0 0,.bool false]) ⟨⟨_,Tryz.underlying224,rfl⟩,by kernel_rfl⟩ rfl ⟨⟨_,_,Tryz.underlying224,rfl,rfl,by kernel_rfl⟩,⟨_,_,Tryz.underlying224,rfl,rfl,by kernel_rfl⟩,⟨_,_,Tryz.underlying224,rfl,rfl,by kernel_rfl⟩,⟨_,_,Tryz.underlying224,rfl,rfl,by kernel_rfl⟩,⟨_,_,Tryz.underlying224,rfl,rfl,by kernel_rfl⟩,trivial⟩ (by unfold TZ;kernel_rfl) rfl (Nat.le_of_ble_eq_true rfl) ⟨_,Tryz.underlying224,by kernel_rfl⟩ (fun ks h=>by cases h),
 pK ⟨⟨_,Tryz.underlying228,rfl⟩,by kernel_rfl⟩ Tryz.underlying228 (by unfold TZ;kernel_rfl),
 kB (z:=.agg #[.int .i64 0,.int .i64 0,.int .i64 0,.int .i64 0]) ⟨⟨_,Tryz.underlying232,rfl⟩,by kernel_rfl⟩ rfl ⟨⟨_,_,Tryz.underlying232,rfl,rfl,by kernel_rfl⟩,⟨_,_,Tryz.underlying232,rfl,rfl,by kernel_rfl⟩,⟨_,_,Tryz.underlying232,rfl,rfl,by kernel_rfl⟩,⟨_,_,Tryz.underlying232,rfl,rfl,by kernel_rfl⟩,trivial⟩ (by unfold TZ;kernel_rfl) rfl (Nat.le_of_ble_eq_true rfl) ⟨_,Tryz.underlying232,by kernel_rfl⟩ (fun ks h=>by cases h),
 pK ⟨⟨_,Tryz.underlying236,rfl⟩,by kernel_rfl⟩ Tryz.underlying236 (by unfold TZ;kernel_rfl),
 pK ⟨⟨_,Tryz.underlying238,rfl⟩,by kernel_rfl⟩ Tryz.underlying238 (by unfold TZ;kernel_rfl),
 kB (z:=.agg #[.int .i64 0,.bool false,.int .i64 0,.int .i64 0]) ⟨⟨_,Tryz.underlying240,rfl⟩,by kernel_rfl⟩ rfl ⟨⟨_,_,Tryz.underlying240,rfl,rfl,by kernel_rfl⟩,⟨_,_,Tryz.underlying240,rfl,rfl,by kernel_rfl⟩,⟨_,_,Tryz.underlying240,rfl,rfl,by kernel_rfl⟩,trivial⟩ (by unfold TZ;kernel_rfl) rfl (Nat.le_of_ble_eq_true rfl) ⟨_,Tryz.underlying240,by kernel_rfl⟩ (fun ks h=>by cases h),
 zo (n:=1) (z:=.int .u64 0) ⟨⟨_,Tryz.underlying244,rfl⟩,by kernel_rfl⟩ rfl (by unfold TZ;kernel_rfl) rfl (Nat.le_of_ble_eq_true rfl) (fun h=>by cases h) (fun k h=>by obtain rfl:=Option.some.inj h;exact Tryz.underlying244),
 kB (z:=.agg #[.bool false,.int .i64 0,.int .i64 0]) ⟨⟨_,Tryz.underlying252,rfl⟩,by kernel_rfl⟩ rfl ⟨⟨_,_,Tryz.underlying252,rfl,rfl,by kernel_rfl⟩,⟨_,_,Tryz.underlying252,rfl,rfl,by kernel_rfl⟩,⟨_,_,Tryz.underlying252,rfl,rfl,by kernel_rfl⟩,trivial⟩ (by unfold TZ;kernel_rfl) rfl (Nat.le_of_ble_eq_true rfl) ⟨_,Tryz.underlying252,by kernel_rfl⟩ (fun ks h=>by cases h),
 kB (z:=.agg #[.int .i64 0,.int .i64 0,.bool false]) ⟨⟨_,Tryz.underlying261,rfl⟩,by kernel_rfl⟩ rfl ⟨⟨_,_,Tryz.underlying261,rfl,rfl,by kernel_rfl⟩,⟨_,_,Tryz.underlying261,rfl,rfl,by kernel_rfl⟩,⟨_,_,Tryz.underlying261,rfl,rfl,by kernel_rfl⟩,trivial⟩ (by unfold TZ;kernel_rfl) rfl (Nat.le_of_ble_eq_true rfl) ⟨_,Tryz.underlying261,by kernel_rfl⟩ (fun ks h=>by cases h),
 X7 (e:=294) (E:=263) (u:=xf) ⟨⟨_,Tryz.underlying263,rfl⟩,by kernel_rfl⟩ Tryz.underlying263 (by unfold TZ;kernel_rfl),
 zp (ty:=.bool) (b:=8) ⟨⟨_,Tryz.underlying266,rfl⟩,by kernel_rfl⟩ rfl (by unfold TZ;kernel_rfl),
 zp (ty:=.bool) (b:=8) ⟨⟨_,Tryz.underlying267,rfl⟩,by kernel_rfl⟩ rfl (by unfold TZ;kernel_rfl),
 zo (n:=1) (z:=.int .u32 0) ⟨⟨_,Tryz.underlying281,rfl⟩,by kernel_rfl⟩ rfl (by unfold TZ;kernel_rfl) rfl (Nat.le_of_ble_eq_true rfl) (fun h=>by cases h) (fun k h=>by obtain rfl:=Option.some.inj h;exact Tryz.underlying281),
 zo (n:=1) (z:=.int .u64 0) ⟨⟨_,Tryz.underlying283,rfl⟩,by kernel_rfl⟩ rfl (by unfold TZ;kernel_rfl) rfl (Nat.le_of_ble_eq_true rfl) (fun h=>by cases h) (fun k h=>by obtain rfl:=Option.some.inj h;exact Tryz.underlying283),
 pK ⟨⟨_,Tryz.underlying292,rfl⟩,by kernel_rfl⟩ Tryz.underlying292 (by unfold TZ;kernel_rfl),
 kB (z:=.agg #[.int .i64 0,.int .i64 0,.int .i64 0,.int .i64 0,.slice none 0 0]) ⟨⟨_,Tryz.underlying294,rfl⟩,by kernel_rfl⟩ rfl ⟨⟨_,_,Tryz.underlying294,rfl,rfl,by kernel_rfl⟩,⟨_,_,Tryz.underlying294,rfl,rfl,by kernel_rfl⟩,trivial⟩ (by unfold TZ;kernel_rfl) rfl (Nat.le_of_ble_eq_true rfl) ⟨_,Tryz.underlying294,by kernel_rfl⟩ (fun ks h=>by cases h),
 X6 (m:=⟨3,3,.int,.int⟩) (ty:=.bool) ⟨⟨_,Tryz.underlying298,rfl⟩,by kernel_rfl⟩ rfl ⟨Tryz.underlying298,kk3,ek3⟩,
 zp (ty:=.bool) (b:=8) ⟨⟨_,Tryz.underlying300,rfl⟩,by kernel_rfl⟩ rfl (by unfold TZ;kernel_rfl),
 zp (ty:=.bool) (b:=8) ⟨⟨_,Tryz.underlying333,rfl⟩,by kernel_rfl⟩ rfl (by unfold TZ;kernel_rfl),trivial⟩
theorem mixed:Tryz.prog.follows .mixedOrders=true:=by kernel_rfl
def zr:FS:=⟨[.rd y89,.rd y3],[y3],tJ,none⟩
def wz:FS:=⟨[.rd y26,.rd y3],[y3],sq,none⟩
def zt:FS:=⟨[.rd y90,.rd y3],[y3],tK,none⟩
def rq:FS:=⟨[.rd XC,.rd y3],[y3],jO,none⟩
def qn:FS:=⟨[.rd y22,.rd y3],[y3],mj,none⟩
def xg:FS:=⟨[.rd XD,.rd y3],[y3],rh,none⟩
def B3:FS:=⟨[.rd XE,.rd y3],[y3],sr,none⟩
def qo:FS:=⟨[.rd XF,.rd y3],[y3],iJ,none⟩
def o8:FS:=⟨[.rd y23,.rd y3],[y3],kM,none⟩
def sU:FS:=⟨[.rd y25,.rd y3],[y3],lq,none⟩
def zu:FS:=⟨[.rd y89],[y89],pL,none⟩
def wA:FS:=⟨[.rd y26],[y26],oW,none⟩
def zw:FS:=⟨[.rd y90],[y90],pM,none⟩
def rr:FS:=⟨[.rd XC],[y92],jP,none⟩
def qp:FS:=⟨[.rd y22],[y35],iK,none⟩
def zx:FS:=⟨[.rd X8],[xf],pN,none⟩
def xh:FS:=⟨[.rd XD],[KU],oe,none⟩
def B4:FS:=⟨[.rd XE],[sI],su,none⟩
def qq:FS:=⟨[.rd XF],[FC],iL,none⟩
def o9:FS:=⟨[.rd y23],[y36],gP,none⟩
def sV:FS:=⟨[.rd y25],[y38],eu,none⟩
def zy:FS:=⟨[.rd y89,.rd y89],[y4],tL,none⟩
def wB:FS:=⟨[.rd y26,.rd y26],[y4],sv,none⟩
def zz:FS:=⟨[.rd y90,.rd y90],[y4],tM,none⟩
def ru:FS:=⟨[.rd y92,.rd y92],[y4],jR,none⟩
def qu:FS:=⟨[.rd y35,.rd y35],[y4],mn,none⟩
def zA:FS:=⟨[.rd xf,.rd xf],[y4],pO,none⟩
def xi:FS:=⟨[.rd KU,.rd KU],[y4],ri,none⟩
def B5:FS:=⟨[.rd sI,.rd sI],[y4],sw,none⟩
def qv:FS:=⟨[.rd FC,.rd FC],[y4],iM,none⟩
def pa:FS:=⟨[.rd y36,.rd y36],[y4],kN,none⟩
def sW:FS:=⟨[.rd y38,.rd y38],[y4],lA,none⟩
def uS:FS:=⟨[.ow y89,.rd y3],[y3],mI,none⟩
def rv:FS:=⟨[.ow y26,.rd y3],[y3],lV,none⟩
def uT:FS:=⟨[.ow y90,.rd y3],[y3],mJ,none⟩
def oq:FS:=⟨[.ow y35,.rd y3],[y3],fQ,none⟩
def sX:FS:=⟨[.ow KU,.rd y3],[y3],lB,none⟩
def nG:FS:=⟨[.ow y36,.rd y3],[y3],fu,none⟩
def qw:FS:=⟨[.ow y38,.rd y3],[y3],iP,none⟩
def zB:FS:=⟨[.rd y27,.rd y3],[y3],tN,none⟩
def zC:FS:=⟨[.rd y29,.rd y3],[y3],pP,none⟩
def xj:FS:=⟨[.rd y51,.rd y3],[y3],rj,none⟩
def uU:FS:=⟨[.rd y53,.rd y3],[y3],mK,none⟩
def B6:FS:=⟨[.rd X9],[LM],sx,none⟩
def zD:FS:=⟨[.rd y27],[y40],pQ,none⟩
def zF:FS:=⟨[.rd y29],[y42],pR,none⟩
def xk:FS:=⟨[.rd y51],[y64],oh,none⟩
def uV:FS:=⟨[.rd y53],[y66],fv,none⟩
def qx:FS:=⟨[.rd y55],[y61],dJ,none⟩
def B7:FS:=⟨[.rd sH,.rd sH],[y4],sy,none⟩
def zG:FS:=⟨[.rd y32,.rd y32],[y4],pS,none⟩
def zH:FS:=⟨[.rd y58,.rd y58],[y4],pT,none⟩
def uW:FS:=⟨[.rd y60,.rd y60],[y4],gR,none⟩
def qy:FS:=⟨[.rd y61,.rd y61],[y4],dK,none⟩
def B8:FS:=⟨[.rd LM,.rd LM],[y4],sA,none⟩
def zI:FS:=⟨[.rd y40,.rd y40],[y4],tO,none⟩
def zJ:FS:=⟨[.rd y42,.rd y42],[y4],pU,none⟩
def xl:FS:=⟨[.rd y64,.rd y64],[y4],rk,none⟩
def uX:FS:=⟨[.rd y66,.rd y66],[y4],mL,none⟩
def uY:FS:=⟨[.ow y40,.rd y3],[y3],mM,none⟩
def sY:FS:=⟨[.ow y64,.rd y3],[y3],lF,none⟩
def ry:FS:=⟨[.ow y66,.rd y3],[y3],gh,none⟩
def uZ:FS:=⟨[.ow y32,.rd y3],[y3],jX,none⟩
def vc:FS:=⟨[.ow y58,.rd y3],[y3],mN,none⟩
def rz:FS:=⟨[.ow y60,.rd y3],[y3],gi,none⟩
def vd:FS:=⟨[.rd y32,.rd y3],[y3],jY,none⟩
def ve:FS:=⟨[.rd y58,.rd y3],[y3],mO,none⟩
def rA:FS:=⟨[.rd y60,.rd y3],[y3],eQ,none⟩
def lO:FS:=⟨[.rd y3,.rd y3,.rd y3],[y4],c8,none⟩
def B9:FS:=⟨[.rd y42,.rd LM],[y4],B2,none⟩
def iX:FS:=⟨[.rd y42],[y4],bJ,none⟩
def vf:FS:=⟨[.rd y26,.rd y26],[y3],np,none⟩
def fT:FS:=⟨[.rd y66],[y4],bq,none⟩
def gZ:FS:=⟨[.rd y66],[y3],bA,none⟩
def p9:FS:=⟨[.rd y38,.rd y3],[y3],gT,none⟩
def xm:FS:=⟨[.rd y3],[y4],oj,none⟩
def tR:FS:=⟨[.rd xf],[y3],nq,none⟩
def Ca:FS:=⟨[.rd sI],[y4],sB,none⟩
def rB:FS:=⟨[.rd sI],[y4],jZ,none⟩
def qa:FS:=⟨[.rd KU],[y3],gj,none⟩
def qb (n:Nat):FS:=⟨[.rd KU],[y3],dq n,none⟩
def wC:FS:=⟨[.rd KU],[sI],kO,none⟩
def wD:FS:=⟨[.rd sI,.rd sI,.rd xf],[sI],kP,none⟩
def Cb:FS:=⟨[.rd y3],[sI],oX,none⟩
def ot (n:Nat):FS:=⟨[.rd sI,.rd y3,.rd y3],[sI],jr n,none⟩
def mS (n:Nat):FS:=⟨[.rd KU],[sI],cn n,none⟩
def sZ:FS:=⟨[.rd sI],[sI,y4],lH,none⟩
def zK:FS:=⟨[.ptr 224 JA,.rd y3,.rd y3],[],nr,none⟩
def ou (n:Nat):FS:=⟨[.ptr 224 JA,.rd KU],[Y7],cR n,none⟩
def ox:FS:=⟨[.rd sI],[JA,y4],fR,none⟩
def xn:FS:=⟨[.rd JA,.rd y3,.rd y3],[y3],om,none⟩
def tS:FS:=⟨[.rd y26,.rd y3],[y3],nt,none⟩
def ta:FS:=⟨[.rd JA,.rd y3],[y4],lI,none⟩
def tc:FS:=⟨[.rd JA,.rd y3],[y92,y4],iw,none⟩
def te:FS:=⟨[],[y92],oL,none⟩
def vh:FS:=⟨[.rd y92,.rd y26,.rd y89],[y92],gU,none⟩
def tT:FS:=⟨[.rd y92],[y89],kQ,none⟩
def Cc:FS:=⟨[.rd y92,.rd y26,.rd y3],[y26],oY,none⟩
def tf:FS:=⟨[.rd y92],[y26],iz,none⟩
def rC:FS:=⟨[.rd y92],[y92],j3,none⟩
def rD:FS:=⟨[.rd sI],[y92,y4],gm,none⟩
def kV:FS:=⟨[.rd y92,.rd y92],[y4],eW,none⟩
def xo:FS:=⟨[.rd y35,.rd y92],[y3],lW,none⟩
def xp:FS:=⟨[.rd y36],[y38,y4],oo,none⟩
def tg:FS:=⟨[.rd sI,.rd sI],[y4],lK,none⟩
def nH:FS:=⟨[.rd y38,.rd y38],[y4],fw,none⟩
def jh:FS:=⟨[.rd y38],[y4],cE,none⟩
def zL:FS:=⟨[.rd y66,.rd y38,.rd y61],[y4],nv,none⟩
def zM:FS:=⟨[.rd y92],[y92],pW,none⟩
def oy:FS:=⟨[.rd y38,.rd y3],[y92,y4],dU,none⟩
def zN:FS:=⟨[.rd y92],[y4],nw,none⟩
def mz:FS:=⟨[.rd y92],[y4],ct,none⟩
def zO:FS:=⟨[.rd y42,.rd y92,.rd y3,.rd y3],[y4],jf,none⟩
def oN:FS:=⟨[.rd y92,.rd y3,.rd y3],[y3],ez,none⟩
def Cd:FS:=⟨[.rd y42,.rd y3],[Y4],oZ,none⟩
def vi:FS:=⟨[.rd y42,.rd y3],[y3],gW,none⟩
def vj:FS:=⟨[.rd LM,.rd y4],[y3],fx,none⟩
def FD:FS:=⟨[.rd LM,.rd y4],[y3],ny,none⟩
def xq:FS:=⟨[.rd y42,.rd y92,.rd y3,.rd y3],[Y3],jt,none⟩
def xr:FS:=⟨[.rd y42,.rd y92,.rd y3],[y26],lX,none⟩
def th:FS:=⟨[.rd y42,.rd y92,.rd y3,.rd y3],[y4],iB,none⟩
def FE:FS:=⟨[.rd y3],[y26],uP,none⟩
def zP:FS:=⟨[.rd y42,.rd y92,.rd y3],[y26],nz,none⟩
def tj:FS:=⟨[.rd y42,.rd y92],[y32],iD,none⟩
def qz:FS:=⟨[.rd y38,.rd y42,.rd y3],[y32,y4],cw,none⟩
def Ce:FS:=⟨[.rd y42],[y42],o0,none⟩
def zQ:FS:=⟨[.rd y66,.rd y3],[y42,y4],gA,none⟩
def Cf:FS:=⟨[.rd y32,.rd sH],[y4],sC,none⟩
def zR:FS:=⟨[.rd sH,.rd sH],[y4],pX,none⟩
def Cg:FS:=⟨[.eat (.sl 103 sH),.rd sH],[y32],sD,none⟩
def pb:FS:=⟨[.rd y32,.rd y32],[y32],eY,none⟩
def qA:FS:=⟨[.rd y32,.rd y32],[y58],iU,none⟩
def tk:FS:=⟨[.rd y66,.rd y38,.rd y61,.rd y3],[y60],iE,none⟩
def rE:FS:=⟨[.rd y66,.rd y38,.rd y61],[y60,y61,y4],j5,none⟩
def fN:FS:=⟨[.rd y3,.rd y3,.rd y3],[y4],bF,none⟩
def Ci:FS:=⟨[.rd LM,.rd y3],[y4],o6,none⟩
def iY:FS:=⟨[.rd y42],[y4],aQ,none⟩
def cy:FS:=⟨[.rd y26,.rd y26],[y4],bQ,none⟩
def fU:FS:=⟨[.rd y66],[y4],aL,none⟩
def hY:FS:=⟨[.rd y66],[y3],bB,none⟩
def cj:FS:=⟨[.rd y36,.fn [FC] [y4]],[y3],bt,none⟩
def rF:FS:=⟨[.rd FC,.cap 3 y3],[y4],j6,none⟩
def qc:FS:=⟨[.rd y38,.rd y3],[y3],gX,none⟩
def rG:FS:=⟨[.rd y3],[y4],ju,none⟩
def zS:FS:=⟨[.rd xf],[y4],pY,none⟩
def aY:FS:=⟨[.rd XG],[XG],fun _=>none,some (263,8)⟩
def sJ:FS:=⟨[.rd sI],[t263],na,none⟩
def Cj:FS:=⟨[.rd sI],[y4],sE,none⟩
def rH:FS:=⟨[.rd sI],[y4],j7,none⟩
def lP (n:Nat):FS:=⟨[.rd t263],[y3],br n,none⟩
def JB:FS:=⟨[.rd y3],[t263],Di,none⟩
def oz (n:Nat):FS:=⟨[.eat t263,.rd y3,.rd y3],[t263],jv n,none⟩
def kh (n:Nat):FS:=⟨[.rd t263],[t263],aU n,none⟩
def iZ (n:Nat):FS:=⟨[.rd t263,.ptr 144 sI],[],aS n,none⟩
def vk:FS:=⟨[.rd t263],[sI],p7,none⟩
def tl:FS:=⟨[.rd sI],[sI,y4],lM,none⟩
def mA:FS:=⟨[.ptr 224 JA,.rd y3,.rd y3],[],da,none⟩
def fE (n:Nat):FS:=⟨[.ptr 224 JA,.rd t263],[Y8],aV n,none⟩
def oA:FS:=⟨[.rd sI],[JA,y4],fS,none⟩
def mq:FS:=⟨[.rd y3,.rd y3,.fn [y3] [y4],.fn [y3,y3] [y3,y4]],[y92,y4],dM,none⟩
def l8:FS:=⟨[.rd JA,.rd y3],[y4],cW,none⟩
def nI:FS:=⟨[.rd JA,.rd y3,.rd y3],[y3],fy,none⟩
def pc:FS:=⟨[.rd y3,.rd y3,.cap 224 JA],[y3,y4],cH,none⟩
def rI:FS:=⟨[.rd JA,.rd y3],[y92,y4],gB,none⟩
def bd:FS:=⟨[.rd y89],[y89],fun _=>none,some (4,1)⟩
def oB:FS:=⟨[.rd y92],[y89],dW,none⟩
def dG:FS:=⟨[.rd y90,.fn [y26] [y4]],[y3],bz,none⟩
def kG:FS:=⟨[.rd y26,.cap 26 y26],[y4],fO,none⟩
def mB:FS:=⟨[.rd y92,.rd y26],[y26,y3],db,none⟩
def l9:FS:=⟨[.rd y92],[y26],cZ,none⟩
def nJ:FS:=⟨[.rd WD,.rd WD],[WD,WD],tP,none⟩
def nK:FS:=⟨[.rd WE,.rd WE],[WE,WE],nA,none⟩
def pd:FS:=⟨[.rd WC,.rd WC],[WC,WC],o7,none⟩
def dy:FS:=⟨[.rd y26,.rd y3],[y26],bI,none⟩
def zT:FS:=⟨[],[y92],tQ,none⟩
def ij:FS:=⟨[.rd y26,.rd y3],[y3],dH,none⟩
def jw:FS:=⟨[.rd y3,.cap 26 y26],[y3],aK,none⟩
def jx:FS:=⟨[.rd y3,.cap 92 y92,.capf 300 [y3] [y3]],[y4],b8,none⟩
def fV:FS:=⟨[.rd y92,.rd y3,.rd y3],[y3],aZ,none⟩
def jy:FS:=⟨[.rd y3,.rd y3,.cap 92 y92,.capf 300 [y3] [y3],.cap 26 y26],[y3,y4],b9,none⟩
def kH:FS:=⟨[.rd y92],[y92],dE,none⟩
def FF:FS:=⟨[.rd y92],[y92,y4],zq,none⟩
def rJ:FS:=⟨[.rd sI],[y92,y4],gD,none⟩
def cx:FS:=⟨[.rd y35,.fn [y92] [y4]],[y3],aJ,none⟩
def fW:FS:=⟨[.rd y89,.rd y89],[y4],dg,none⟩
def bV:FS:=⟨[.rd y90,.rd y90,.fn [y26,y26] [y4]],[y4],a6,none⟩
def nL:FS:=⟨[.rd y26,.rd y26],[y4],fA,none⟩
def kW:FS:=⟨[.rd y92,.rd y92],[y4],di,none⟩
def xt:FS:=⟨[.rd y92,.cap 92 y92],[y4],l5,none⟩
def xu:FS:=⟨[.rd sI],[sI],l6,none⟩
def Ck:FS:=⟨[.rd y36],[y38,y4],sF,none⟩
def aW:FS:=⟨[.rd y35,.rd y35,.fn [y92,y92] [y4]],[y4],aH,none⟩
def aT:FS:=⟨[.rd y36,.rd y36,.fn [FC,FC] [y4]],[y4],aG,none⟩
def fj:FS:=⟨[.rd KU,.rd KU],[y4],bT,none⟩
def tm:FS:=⟨[.rd sI,.rd sI],[y4],lN,none⟩
def qB:FS:=⟨[.rd FC,.rd FC],[y4],fJ,none⟩
def nM:FS:=⟨[.rd y38,.rd y38],[y4],fB,none⟩
def ji:FS:=⟨[.rd y38],[y4],cJ,none⟩
def zU:FS:=⟨[.rd y66,.rd y38,.rd y61],[y4],nB,none⟩
def oC:FS:=⟨[.rd y26],[y26],gE,none⟩
def pe:FS:=⟨[.rd y92],[y92],gY,none⟩
def oD:FS:=⟨[.rd y38,.rd y3],[y92,y4],dX,none⟩
def mC:FS:=⟨[.rd y92],[y4],bS,none⟩
def wE:FS:=⟨[.rd y42,.rd y92,.rd y26],[y4],cv,none⟩
def Cl:FS:=⟨[.rd y90,.rd y26],[y26],sG,none⟩
def qd:FS:=⟨[.rd y3],[y26],gF,none⟩
def FG:FS:=⟨[.rd LM,.rd y4],[y3],rl,none⟩
def JC:FS:=⟨[.rd y42],[Y6],uQ,none⟩
def tU:FS:=⟨[.rd y92,.rd y3,.rd y3],[y3],eA,none⟩
def FH:FS:=⟨[.rd y92,.rd y3,.rd y3,.rd y3],[y3],rp,none⟩
def qC:FS:=⟨[.rd y42,.rd y92],[y90],dN,none⟩
def pf:FS:=⟨[.rd y42,.rd y92,.rd y3],[y26],e7,some (0,7)⟩
def vl:FS:=⟨[.rd y92,.rd y3,.rd y3],[y4],kd,none⟩
def iG:FS:=⟨[.ow (.sl 3 y3)],[],eB,none⟩
def fX:FS:=⟨[.eat (.sl 3 y3)],[.sl 3 y3],cd,none⟩
def vm:FS:=⟨[.rd y26],[y26],ke,none⟩
def rK:FS:=⟨[.rd y42,.rd y92,.rd y3],[y26],gH,none⟩
def tn:FS:=⟨[.rd y42,.rd y92],[y32],iF,none⟩
def qD:FS:=⟨[.rd y38,.rd y42,.rd y3],[y32,y4],fK,none⟩
def vn:FS:=⟨[.rd y42],[y42],kg,none⟩
def zV:FS:=⟨[.rd y66,.rd y3],[y42,y4],nD,none⟩
def vo:FS:=⟨[.rd y66,.rd y38,.rd y3,.rd y3],[y32,y4],fD,none⟩
def eD:FS:=⟨[.rd y32,.fn [sH] [y4]],[y3],bf,none⟩
def dZ:FS:=⟨[.eat (.sl 103 sH),.fn [sH] [y4]],[.sl 103 sH],bD,none⟩
def rL:FS:=⟨[.rd y3,.rd y3],[y3],nE,none⟩
def qF:FS:=⟨[.rd sH,.rd sH],[y3],xF,none⟩
def fc:FS:=⟨[.ow (.sl 103 sH),.fk 164],[],cL,none⟩
def fl:FS:=⟨[.eat (.sl 103 sH)],[.sl 103 sH],bU,none⟩
def zW:FS:=⟨[.rd y32],[y32],p8,none⟩
def fY:FS:=⟨[.rd y32,.rd sH],[y3],cg,none⟩
def fe:FS:=⟨[.rd y32,.rd sH],[y4],bO,none⟩
def nO:FS:=⟨[.rd sH,.cap 32 y32],[y4],jg,none⟩
def pg:FS:=⟨[.rd y32,.rd y32],[y32],fb,none⟩
def qG:FS:=⟨[.rd y32,.rd y32],[y58],iW,none⟩
def zX:FS:=⟨[.rd y66,.rd y38,.rd y61,.rd y3],[y60,y61,y4],nF,none⟩
def rM:FS:=⟨[.rd y66,.rd y38,.rd y61],[y60,y61,y4],gI,none⟩
def qL:FS:=⟨[.rd y53,.rd y25,.rd y55],[y4],dF,none⟩
end R
namespace R
open Go.RowKit
open D
theorem Hy:FOk Tryz.prog 126 zr:=fok (V:=⟨tt,[],[],12,[]⟩) ak trivial mixed Tryz.func126 rfl rfl (enters_of Tryz.func126 (by kernel_rfl) rfl) rfl (Nat.le_of_ble_eq_true rfl) rfl .no (fun d=>by kernel_rfl)
theorem Cm:FOk Tryz.prog 45 wz:=fok (V:=⟨tt,[],[],12,[]⟩) ak trivial mixed Tryz.func45 rfl rfl (enters_of Tryz.func45 (by kernel_rfl) rfl) rfl (Nat.le_of_ble_eq_true rfl) rfl .no (fun d=>by kernel_rfl)
theorem Hz:FOk Tryz.prog 127 zt:=fok (V:=⟨tt,[(45,wz)],[],27,[]⟩) ak ⟨Cm,trivial⟩ mixed Tryz.func127 rfl rfl (enters_of Tryz.func127 (by kernel_rfl) rfl) rfl (Nat.le_of_ble_eq_true rfl) rfl (.two .no (.two .no (.two .no (.two (.two .no (.loop [.slot 1 (.num .i64),.slot 5 (.num .i64)] .no)) .no)))) (fun d=>by kernel_rfl)
theorem zY:FOk Tryz.prog 87 rq:=fok (V:=⟨tt,[(126,zr),(127,zt)],[],18,[]⟩) ak ⟨Hy,Hz,trivial⟩ mixed Tryz.func87 rfl rfl (enters_of Tryz.func87 (by kernel_rfl) rfl) rfl (Nat.le_of_ble_eq_true rfl) rfl .no (fun d=>by kernel_rfl)
theorem xG:FOk Tryz.prog 43 qn:=fok (V:=⟨tt,[(87,rq)],[],27,[]⟩) ak ⟨zY,trivial⟩ mixed Tryz.func43 rfl rfl (enters_of Tryz.func43 (by kernel_rfl) rfl) rfl (Nat.le_of_ble_eq_true rfl) rfl (.two .no (.two .no (.two .no (.two (.two .no (.loop [.slot 1 (.num .i64),.slot 5 (.num .i64)] .no)) .no)))) (fun d=>by kernel_rfl)
theorem FI:FOk Tryz.prog 165 xg:=fok (V:=⟨tt,[],[],12,[]⟩) ak trivial mixed Tryz.func165 rfl rfl (enters_of Tryz.func165 (by kernel_rfl) rfl) rfl (Nat.le_of_ble_eq_true rfl) rfl .no (fun d=>by kernel_rfl)
theorem KV:FOk Tryz.prog 128 B3:=fok (V:=⟨tt,[(165,xg)],[],12,[]⟩) ak ⟨FI,trivial⟩ mixed Tryz.func128 rfl rfl (enters_of Tryz.func128 (by kernel_rfl) rfl) rfl (Nat.le_of_ble_eq_true rfl) rfl .no (fun d=>by kernel_rfl)
theorem xH:FOk Tryz.prog 88 qo:=fok (V:=⟨tt,[(128,B3)],[],12,[]⟩) ak ⟨KV,trivial⟩ mixed Tryz.func88 rfl rfl (enters_of Tryz.func88 (by kernel_rfl) rfl) rfl (Nat.le_of_ble_eq_true rfl) rfl .no (fun d=>by kernel_rfl)
theorem wF:FOk Tryz.prog 44 o8:=fok (V:=⟨tt,[(88,qo)],[],27,[]⟩) ak ⟨xH,trivial⟩ mixed Tryz.func44 rfl rfl (enters_of Tryz.func44 (by kernel_rfl) rfl) rfl (Nat.le_of_ble_eq_true rfl) rfl (.two .no (.two .no (.two .no (.two (.two .no (.loop [.slot 1 (.num .i64),.slot 5 (.num .i64)] .no)) .no)))) (fun d=>by kernel_rfl)
theorem A8:FOk Tryz.prog 8 sU:=fok (V:=⟨tt,[(43,qn),(44,o8)],[],18,[]⟩) ak ⟨xG,wF,trivial⟩ mixed Tryz.func8 rfl rfl (enters_of Tryz.func8 (by kernel_rfl) rfl) rfl (Nat.le_of_ble_eq_true rfl) rfl .no (fun d=>by kernel_rfl)
theorem HA:FOk Tryz.prog 135 zu:=fok (V:=⟨tt,[],[],22,[]⟩) ak trivial mixed Tryz.func135 rfl rfl (enters_of Tryz.func135 (by kernel_rfl) rfl) rfl (Nat.le_of_ble_eq_true rfl) rfl (.two .no (.two .no (.two (.two .no (.loop [.row 3 4 y4,.slot 4 (.num .i64)] .no)) .no))) (fun d=>by kernel_rfl)
theorem Cn:FOk Tryz.prog 52 wA:=fok (V:=⟨tt,[],[],22,[]⟩) ak trivial mixed Tryz.func52 rfl rfl (enters_of Tryz.func52 (by kernel_rfl) rfl) rfl (Nat.le_of_ble_eq_true rfl) rfl (.two .no (.two .no (.two (.two .no (.loop [.row 3 3 y3,.slot 4 (.num .i64)] .no)) .no))) (fun d=>by kernel_rfl)
theorem HB:FOk Tryz.prog 136 zw:=fok (V:=⟨tt,[(52,wA)],[],23,[]⟩) ak ⟨Cn,trivial⟩ mixed Tryz.func136 rfl rfl (enters_of Tryz.func136 (by kernel_rfl) rfl) rfl (Nat.le_of_ble_eq_true rfl) rfl (.two .no (.two .no (.two (.two .no (.loop [.row 3 26 y26,.slot 4 (.num .i64)] .no)) .no))) (fun d=>by kernel_rfl)
theorem zZ:FOk Tryz.prog 96 rr:=fok (V:=⟨tt,[(135,zu),(136,zw)],[],16,[]⟩) ak ⟨HA,HB,trivial⟩ mixed Tryz.func96 rfl rfl (enters_of Tryz.func96 (by kernel_rfl) rfl) rfl (Nat.le_of_ble_eq_true rfl) rfl .no (fun d=>by kernel_rfl)
theorem xI:FOk Tryz.prog 50 qp:=fok (V:=⟨tt,[(96,rr)],[],23,[]⟩) ak ⟨zZ,trivial⟩ mixed Tryz.func50 rfl rfl (enters_of Tryz.func50 (by kernel_rfl) rfl) rfl (Nat.le_of_ble_eq_true rfl) rfl (.two .no (.two .no (.two (.two .no (.loop [.row 3 92 y92,.slot 4 (.num .i64)] .no)) .no))) (fun d=>by kernel_rfl)
theorem HC:FOk Tryz.prog 206 zx:=fok (V:=⟨tt,[],[],17,[]⟩) ak trivial mixed Tryz.func206 rfl rfl (enters_of Tryz.func206 (by kernel_rfl) rfl) rfl (Nat.le_of_ble_eq_true rfl) rfl .no (fun d=>by kernel_rfl)
theorem FJ:FOk Tryz.prog 174 xh:=fok (V:=⟨tt,[(206,zx)],[],23,[]⟩) ak ⟨HC,trivial⟩ mixed Tryz.func174 rfl rfl (enters_of Tryz.func174 (by kernel_rfl) rfl) rfl (Nat.le_of_ble_eq_true rfl) rfl (.two .no (.two .no (.two (.two .no (.loop [.row 3 188 xf,.slot 4 (.num .i64)] .no)) .no))) (fun d=>by kernel_rfl)
end R
namespace R
open Go.RowKit
open D
theorem KW:FOk Tryz.prog 137 B4:=fok (V:=⟨tt,[(174,xh)],[],9,[]⟩) ak ⟨FJ,trivial⟩ mixed Tryz.func137 rfl rfl (enters_of Tryz.func137 (by kernel_rfl) rfl) rfl (Nat.le_of_ble_eq_true rfl) rfl .no (fun d=>by kernel_rfl)
theorem xJ:FOk Tryz.prog 97 qq:=fok (V:=⟨tt,[(137,B4)],[],15,[]⟩) ak ⟨KW,trivial⟩ mixed Tryz.func97 rfl rfl (enters_of Tryz.func97 (by kernel_rfl) rfl) rfl (Nat.le_of_ble_eq_true rfl) rfl .no (fun d=>by kernel_rfl)
theorem wG:FOk Tryz.prog 51 o9:=fok (V:=⟨tt,[(97,qq)],[],23,[]⟩) ak ⟨xJ,trivial⟩ mixed Tryz.func51 rfl rfl (enters_of Tryz.func51 (by kernel_rfl) rfl) rfl (Nat.le_of_ble_eq_true rfl) rfl (.two .no (.two .no (.two (.two .no (.loop [.row 3 146 FC,.slot 4 (.num .i64)] .no)) .no))) (fun d=>by kernel_rfl)
theorem A9:FOk Tryz.prog 11 sV:=fok (V:=⟨tt,[(50,qp),(51,o9)],[],13,[]⟩) ak ⟨xI,wG,trivial⟩ mixed Tryz.func11 rfl rfl (enters_of Tryz.func11 (by kernel_rfl) rfl) rfl (Nat.le_of_ble_eq_true rfl) rfl .no (fun d=>by kernel_rfl)
theorem HD:FOk Tryz.prog 147 zy:=fok (V:=⟨tt,[],[],26,[]⟩) ak trivial mixed Tryz.func147 rfl rfl (enters_of Tryz.func147 (by kernel_rfl) rfl) rfl (Nat.le_of_ble_eq_true rfl) rfl (.two .no (.two .no (.two (.two .no (.loop [.slot 5 (.num .i64)] .no)) .no))) (fun d=>by kernel_rfl)
theorem Co:FOk Tryz.prog 60 wB:=fok (V:=⟨tt,[],[],26,[]⟩) ak trivial mixed Tryz.func60 rfl rfl (enters_of Tryz.func60 (by kernel_rfl) rfl) rfl (Nat.le_of_ble_eq_true rfl) rfl (.two .no (.two .no (.two (.two .no (.loop [.slot 5 (.num .i64)] .no)) .no))) (fun d=>by kernel_rfl)
theorem HE:FOk Tryz.prog 148 zz:=fok (V:=⟨tt,[(60,wB)],[],27,[]⟩) ak ⟨Co,trivial⟩ mixed Tryz.func148 rfl rfl (enters_of Tryz.func148 (by kernel_rfl) rfl) rfl (Nat.le_of_ble_eq_true rfl) rfl (.two .no (.two .no (.two (.two .no (.loop [.slot 5 (.num .i64)] .no)) .no))) (fun d=>by kernel_rfl)
theorem Aa:FOk Tryz.prog 106 ru:=fok (V:=⟨tt,[(147,zy),(148,zz)],[],22,[]⟩) ak ⟨HD,HE,trivial⟩ mixed Tryz.func106 rfl rfl (enters_of Tryz.func106 (by kernel_rfl) rfl) rfl (Nat.le_of_ble_eq_true rfl) rfl .no (fun d=>by kernel_rfl)
theorem xK:FOk Tryz.prog 58 qu:=fok (V:=⟨tt,[(106,ru)],[],27,[]⟩) ak ⟨Aa,trivial⟩ mixed Tryz.func58 rfl rfl (enters_of Tryz.func58 (by kernel_rfl) rfl) rfl (Nat.le_of_ble_eq_true rfl) rfl (.two .no (.two .no (.two (.two .no (.loop [.slot 5 (.num .i64)] .no)) .no))) (fun d=>by kernel_rfl)
theorem HF:FOk Tryz.prog 220 zA:=fok (V:=⟨tt,[],[],25,[]⟩) ak trivial mixed Tryz.func220 rfl rfl (enters_of Tryz.func220 (by kernel_rfl) rfl) rfl (Nat.le_of_ble_eq_true rfl) rfl .no (fun d=>by kernel_rfl)
theorem FK:FOk Tryz.prog 189 xi:=fok (V:=⟨tt,[(220,zA)],[],27,[]⟩) ak ⟨HF,trivial⟩ mixed Tryz.func189 rfl rfl (enters_of Tryz.func189 (by kernel_rfl) rfl) rfl (Nat.le_of_ble_eq_true rfl) rfl (.two .no (.two .no (.two (.two .no (.loop [.slot 5 (.num .i64)] .no)) .no))) (fun d=>by kernel_rfl)
theorem KX:FOk Tryz.prog 149 B5:=fok (V:=⟨tt,[(189,xi)],[],11,[]⟩) ak ⟨FK,trivial⟩ mixed Tryz.func149 rfl rfl (enters_of Tryz.func149 (by kernel_rfl) rfl) rfl (Nat.le_of_ble_eq_true rfl) rfl .no (fun d=>by kernel_rfl)
theorem xL:FOk Tryz.prog 107 qv:=fok (V:=⟨tt,[(149,B5)],[],21,[]⟩) ak ⟨KX,trivial⟩ mixed Tryz.func107 rfl rfl (enters_of Tryz.func107 (by kernel_rfl) rfl) rfl (Nat.le_of_ble_eq_true rfl) rfl .no (fun d=>by kernel_rfl)
theorem wH:FOk Tryz.prog 59 pa:=fok (V:=⟨tt,[(107,qv)],[],27,[]⟩) ak ⟨xL,trivial⟩ mixed Tryz.func59 rfl rfl (enters_of Tryz.func59 (by kernel_rfl) rfl) rfl (Nat.le_of_ble_eq_true rfl) rfl (.two .no (.two .no (.two (.two .no (.loop [.slot 5 (.num .i64)] .no)) .no))) (fun d=>by kernel_rfl)
theorem Ba:FOk Tryz.prog 15 sW:=fok (V:=⟨tt,[(58,qu),(59,pa)],[],17,[]⟩) ak ⟨xK,wH,trivial⟩ mixed Tryz.func15 rfl rfl (enters_of Tryz.func15 (by kernel_rfl) rfl) rfl (Nat.le_of_ble_eq_true rfl) rfl .no (fun d=>by kernel_rfl)
theorem Dj:FOk Tryz.prog 109 uS:=fok (V:=⟨tt,[],[],21,[]⟩) ak trivial mixed Tryz.func109 rfl rfl (enters_of Tryz.func109 (by kernel_rfl) rfl) rfl (Nat.le_of_ble_eq_true rfl) rfl (.two .no (.two (.two .no (.loop [.par 0 [] 4 y4,.slot 1 (.num .i64),.slot 5 (.num .i64)] .no)) .no)) (fun d=>by kernel_rfl)
theorem xw:FOk Tryz.prog 64 rv:=fok (V:=⟨tt,[],[],19,[]⟩) ak trivial mixed Tryz.func64 rfl rfl (enters_of Tryz.func64 (by kernel_rfl) rfl) rfl (Nat.le_of_ble_eq_true rfl) rfl (.two .no (.two (.two .no (.loop [.par 0 [] 3 y3,.slot 1 (.num .i64),.slot 5 (.num .i64)] .no)) .no)) (fun d=>by kernel_rfl)
end R
namespace R
open Go.RowKit
open D
theorem Dk:FOk Tryz.prog 110 uT:=fok (V:=⟨tt,[(64,rv)],[],19,[]⟩) ak ⟨xw,trivial⟩ mixed Tryz.func110 rfl rfl (enters_of Tryz.func110 (by kernel_rfl) rfl) rfl (Nat.le_of_ble_eq_true rfl) rfl (.two .no (.two (.two .no (.loop [.par 0 [] 26 y26,.slot 1 (.num .i64),.slot 5 (.num .i64)] .no)) .no)) (fun d=>by kernel_rfl)
theorem vp:FOk Tryz.prog 62 oq:=fok (V:=⟨tt,[(109,uS),(110,uT)],[],34,[]⟩) ak ⟨Dj,Dk,trivial⟩ mixed Tryz.func62 rfl rfl (enters_of Tryz.func62 (by kernel_rfl) rfl) rfl (Nat.le_of_ble_eq_true rfl) rfl (.two .no (.two (.two .no (.loop [.par 0 [] 92 y92,.slot 1 (.num .i64),.slot 5 (.num .i64)] .no)) .no)) (fun d=>by kernel_rfl)
theorem Bb:FOk Tryz.prog 111 sX:=fok (V:=⟨tt,[],[],41,[]⟩) ak trivial mixed Tryz.func111 rfl rfl (enters_of Tryz.func111 (by kernel_rfl) rfl) rfl (Nat.le_of_ble_eq_true rfl) rfl (.two .no (.two (.two .no (.loop [.par 0 [] 188 xf,.slot 1 (.num .i64),.slot 5 (.num .i64)] .no)) .no)) (fun d=>by kernel_rfl)
theorem tV:FOk Tryz.prog 63 nG:=fok (V:=⟨tt,[(111,sX)],[],35,[]⟩) ak ⟨Bb,trivial⟩ mixed Tryz.func63 rfl rfl (enters_of Tryz.func63 (by kernel_rfl) rfl) rfl (Nat.le_of_ble_eq_true rfl) rfl (.two .no (.two (.two .no (.loop [.par 0 [] 146 FC,.slot 1 (.num .i64),.slot 5 (.num .i64)] .no)) .no)) (fun d=>by kernel_rfl)
theorem xM:FOk Tryz.prog 17 qw:=fok (V:=⟨tt,[(62,oq),(63,nG)],[],14,[]⟩) ak ⟨vp,tV,trivial⟩ mixed Tryz.func17 rfl rfl (enters_of Tryz.func17 (by kernel_rfl) rfl) rfl (Nat.le_of_ble_eq_true rfl) rfl .no (fun d=>by kernel_rfl)
theorem HG:FOk Tryz.prog 46 zB:=fok (V:=⟨tt,[],[],12,[]⟩) ak trivial mixed Tryz.func46 rfl rfl (enters_of Tryz.func46 (by kernel_rfl) rfl) rfl (Nat.le_of_ble_eq_true rfl) rfl .no (fun d=>by kernel_rfl)
theorem HH:FOk Tryz.prog 9 zC:=fok (V:=⟨tt,[(45,wz),(46,zB)],[],18,[]⟩) ak ⟨Cm,HG,trivial⟩ mixed Tryz.func9 rfl rfl (enters_of Tryz.func9 (by kernel_rfl) rfl) rfl (Nat.le_of_ble_eq_true rfl) rfl .no (fun d=>by kernel_rfl)
theorem FL:FOk Tryz.prog 66 xj:=fok (V:=⟨tt,[(9,zC)],[],27,[]⟩) ak ⟨HH,trivial⟩ mixed Tryz.func66 rfl rfl (enters_of Tryz.func66 (by kernel_rfl) rfl) rfl (Nat.le_of_ble_eq_true rfl) rfl (.two .no (.two .no (.two .no (.two (.two .no (.loop [.slot 1 (.num .i64),.slot 5 (.num .i64)] .no)) .no)))) (fun d=>by kernel_rfl)
theorem Dl:FOk Tryz.prog 21 uU:=fok (V:=⟨tt,[(66,xj)],[],12,[]⟩) ak ⟨FL,trivial⟩ mixed Tryz.func21 rfl rfl (enters_of Tryz.func21 (by kernel_rfl) rfl) rfl (Nat.le_of_ble_eq_true rfl) rfl .no (fun d=>by kernel_rfl)
theorem KY:FOk Tryz.prog 98 B6:=fok (V:=⟨tt,[],[],17,[]⟩) ak trivial mixed Tryz.func98 rfl rfl (enters_of Tryz.func98 (by kernel_rfl) rfl) rfl (Nat.le_of_ble_eq_true rfl) rfl .no (fun d=>by kernel_rfl)
theorem HI:FOk Tryz.prog 53 zD:=fok (V:=⟨tt,[(98,B6)],[],23,[]⟩) ak ⟨KY,trivial⟩ mixed Tryz.func53 rfl rfl (enters_of Tryz.func53 (by kernel_rfl) rfl) rfl (Nat.le_of_ble_eq_true rfl) rfl (.two .no (.two .no (.two (.two .no (.loop [.row 3 150 LM,.slot 4 (.num .i64)] .no)) .no))) (fun d=>by kernel_rfl)
theorem HJ:FOk Tryz.prog 12 zF:=fok (V:=⟨tt,[(52,wA),(53,zD)],[],13,[]⟩) ak ⟨Cn,HI,trivial⟩ mixed Tryz.func12 rfl rfl (enters_of Tryz.func12 (by kernel_rfl) rfl) rfl (Nat.le_of_ble_eq_true rfl) rfl .no (fun d=>by kernel_rfl)
theorem FM:FOk Tryz.prog 69 xk:=fok (V:=⟨tt,[(12,zF)],[],23,[]⟩) ak ⟨HJ,trivial⟩ mixed Tryz.func69 rfl rfl (enters_of Tryz.func69 (by kernel_rfl) rfl) rfl (Nat.le_of_ble_eq_true rfl) rfl (.two .no (.two .no (.two (.two .no (.loop [.row 3 42 y42,.slot 4 (.num .i64)] .no)) .no))) (fun d=>by kernel_rfl)
theorem Dm:FOk Tryz.prog 23 uV:=fok (V:=⟨tt,[(69,xk)],[],12,[]⟩) ak ⟨FM,trivial⟩ mixed Tryz.func23 rfl rfl (enters_of Tryz.func23 (by kernel_rfl) rfl) rfl (Nat.le_of_ble_eq_true rfl) rfl .no (fun d=>by kernel_rfl)
theorem xN:FOk Tryz.prog 24 qx:=fok (V:=⟨tt,[],[],14,[]⟩) ak trivial mixed Tryz.func24 rfl rfl (enters_of Tryz.func24 (by kernel_rfl) rfl) rfl (Nat.le_of_ble_eq_true rfl) rfl .no (fun d=>by kernel_rfl)
theorem KZ:FOk Tryz.prog 57 B7:=fok (V:=⟨tt,[],[],15,[]⟩) ak trivial mixed Tryz.func57 rfl rfl (enters_of Tryz.func57 (by kernel_rfl) rfl) rfl (Nat.le_of_ble_eq_true rfl) rfl .no (fun d=>by kernel_rfl)
theorem HK:FOk Tryz.prog 14 zG:=fok (V:=⟨tt,[(57,B7)],[],27,[]⟩) ak ⟨KZ,trivial⟩ mixed Tryz.func14 rfl rfl (enters_of Tryz.func14 (by kernel_rfl) rfl) rfl (Nat.le_of_ble_eq_true rfl) rfl (.two .no (.two .no (.two (.two .no (.loop [.slot 5 (.num .i64)] .no)) .no))) (fun d=>by kernel_rfl)
end R
namespace R
open Go.RowKit
open D
theorem HL:FOk Tryz.prog 72 zH:=fok (V:=⟨tt,[(14,zG)],[],17,[]⟩) ak ⟨HK,trivial⟩ mixed Tryz.func72 rfl rfl (enters_of Tryz.func72 (by kernel_rfl) rfl) rfl (Nat.le_of_ble_eq_true rfl) rfl .no (fun d=>by kernel_rfl)
theorem Dn:FOk Tryz.prog 26 uW:=fok (V:=⟨tt,[(72,zH)],[],21,[]⟩) ak ⟨HL,trivial⟩ mixed Tryz.func26 rfl rfl (enters_of Tryz.func26 (by kernel_rfl) rfl) rfl (Nat.le_of_ble_eq_true rfl) rfl .no (fun d=>by kernel_rfl)
theorem xO:FOk Tryz.prog 27 qy:=fok (V:=⟨tt,[],[],20,[]⟩) ak trivial mixed Tryz.func27 rfl rfl (enters_of Tryz.func27 (by kernel_rfl) rfl) rfl (Nat.le_of_ble_eq_true rfl) rfl .no (fun d=>by kernel_rfl)
theorem K0:FOk Tryz.prog 108 B8:=fok (V:=⟨tt,[],[],25,[]⟩) ak trivial mixed Tryz.func108 rfl rfl (enters_of Tryz.func108 (by kernel_rfl) rfl) rfl (Nat.le_of_ble_eq_true rfl) rfl .no (fun d=>by kernel_rfl)
theorem HM:FOk Tryz.prog 61 zI:=fok (V:=⟨tt,[(108,B8)],[],27,[]⟩) ak ⟨K0,trivial⟩ mixed Tryz.func61 rfl rfl (enters_of Tryz.func61 (by kernel_rfl) rfl) rfl (Nat.le_of_ble_eq_true rfl) rfl (.two .no (.two .no (.two (.two .no (.loop [.slot 5 (.num .i64)] .no)) .no))) (fun d=>by kernel_rfl)
theorem HO:FOk Tryz.prog 16 zJ:=fok (V:=⟨tt,[(60,wB),(61,zI)],[],17,[]⟩) ak ⟨Co,HM,trivial⟩ mixed Tryz.func16 rfl rfl (enters_of Tryz.func16 (by kernel_rfl) rfl) rfl (Nat.le_of_ble_eq_true rfl) rfl .no (fun d=>by kernel_rfl)
theorem FN:FOk Tryz.prog 73 xl:=fok (V:=⟨tt,[(16,zJ)],[],27,[]⟩) ak ⟨HO,trivial⟩ mixed Tryz.func73 rfl rfl (enters_of Tryz.func73 (by kernel_rfl) rfl) rfl (Nat.le_of_ble_eq_true rfl) rfl (.two .no (.two .no (.two (.two .no (.loop [.slot 5 (.num .i64)] .no)) .no))) (fun d=>by kernel_rfl)
theorem Do:FOk Tryz.prog 28 uX:=fok (V:=⟨tt,[(73,xl)],[],16,[]⟩) ak ⟨FN,trivial⟩ mixed Tryz.func28 rfl rfl (enters_of Tryz.func28 (by kernel_rfl) rfl) rfl (Nat.le_of_ble_eq_true rfl) rfl .no (fun d=>by kernel_rfl)
theorem Dq:FOk Tryz.prog 65 uY:=fok (V:=⟨tt,[],[],41,[]⟩) ak trivial mixed Tryz.func65 rfl rfl (enters_of Tryz.func65 (by kernel_rfl) rfl) rfl (Nat.le_of_ble_eq_true rfl) rfl (.two .no (.two (.two .no (.loop [.par 0 [] 150 LM,.slot 1 (.num .i64),.slot 5 (.num .i64)] .no)) .no)) (fun d=>by kernel_rfl)
theorem Bc:FOk Tryz.prog 74 sY:=fok (V:=⟨tt,[(64,rv),(65,uY)],[],27,[]⟩) ak ⟨xw,Dq,trivial⟩ mixed Tryz.func74 rfl rfl (enters_of Tryz.func74 (by kernel_rfl) rfl) rfl (Nat.le_of_ble_eq_true rfl) rfl (.two .no (.two (.two .no (.loop [.par 0 [] 42 y42,.slot 1 (.num .i64),.slot 5 (.num .i64)] .no)) .no)) (fun d=>by kernel_rfl)
theorem Ab:FOk Tryz.prog 29 ry:=fok (V:=⟨tt,[(74,sY)],[],10,[]⟩) ak ⟨Bc,trivial⟩ mixed Tryz.func29 rfl rfl (enters_of Tryz.func29 (by kernel_rfl) rfl) rfl (Nat.le_of_ble_eq_true rfl) rfl .no (fun d=>by kernel_rfl)
theorem Dr:FOk Tryz.prog 19 uZ:=fok (V:=⟨tt,[],[],27,[]⟩) ak trivial mixed Tryz.func19 rfl rfl (enters_of Tryz.func19 (by kernel_rfl) rfl) rfl (Nat.le_of_ble_eq_true rfl) rfl (.two .no (.two (.two .no (.loop [.par 0 [] 103 sH,.slot 1 (.num .i64),.slot 5 (.num .i64)] .no)) .no)) (fun d=>by kernel_rfl)
theorem Ds:FOk Tryz.prog 75 vc:=fok (V:=⟨tt,[(19,uZ)],[],14,[]⟩) ak ⟨Dr,trivial⟩ mixed Tryz.func75 rfl rfl (enters_of Tryz.func75 (by kernel_rfl) rfl) rfl (Nat.le_of_ble_eq_true rfl) rfl .no (fun d=>by kernel_rfl)
theorem Ac:FOk Tryz.prog 30 rz:=fok (V:=⟨tt,[(75,vc)],[],10,[]⟩) ak ⟨Ds,trivial⟩ mixed Tryz.func30 rfl rfl (enters_of Tryz.func30 (by kernel_rfl) rfl) rfl (Nat.le_of_ble_eq_true rfl) rfl .no (fun d=>by kernel_rfl)
theorem Dt:FOk Tryz.prog 20 vd:=fok (V:=⟨tt,[],[],31,[]⟩) ak trivial mixed Tryz.func20 rfl rfl (enters_of Tryz.func20 (by kernel_rfl) rfl) rfl (Nat.le_of_ble_eq_true rfl) rfl (.two .no (.two (.two .no (.loop [.slot 1 (.num .i64),.slot 5 (.num .i64)] .no)) .no)) (fun d=>by kernel_rfl)
theorem Du:FOk Tryz.prog 76 ve:=fok (V:=⟨tt,[(20,vd)],[],18,[]⟩) ak ⟨Dt,trivial⟩ mixed Tryz.func76 rfl rfl (enters_of Tryz.func76 (by kernel_rfl) rfl) rfl (Nat.le_of_ble_eq_true rfl) rfl .no (fun d=>by kernel_rfl)
theorem Ad:FOk Tryz.prog 31 rA:=fok (V:=⟨tt,[(76,ve)],[],12,[]⟩) ak ⟨Du,trivial⟩ mixed Tryz.func31 rfl rfl (enters_of Tryz.func31 (by kernel_rfl) rfl) rfl (Nat.le_of_ble_eq_true rfl) rfl .no (fun d=>by kernel_rfl)
end R
namespace R
open Go.RowKit
open D
theorem mT:FOk Tryz.prog 92 lO:=fok (V:=⟨tt,[],[],15,[]⟩) ak trivial mixed Tryz.func92 rfl rfl (enters_of Tryz.func92 (by kernel_rfl) rfl) rfl (Nat.le_of_ble_eq_true rfl) rfl .no (fun d=>by kernel_rfl)
theorem K4:FOk Tryz.prog 93 B9:=fok (V:=⟨tt,[(92,lO)],[],30,[]⟩) ak ⟨mT,trivial⟩ mixed Tryz.func93 rfl rfl (enters_of Tryz.func93 (by kernel_rfl) rfl) rfl (Nat.le_of_ble_eq_true rfl) rfl .no (fun d=>by kernel_rfl)
theorem mr:FOk Tryz.prog 48 iX:=fok (V:=⟨tt,[(92,lO),(93,B9)],[],64,[]⟩) ak ⟨mT,K4,trivial⟩ mixed Tryz.func48 rfl rfl (enters_of Tryz.func48 (by kernel_rfl) rfl) rfl (Nat.le_of_ble_eq_true rfl) rfl (.two .no (.two (.two .no (.loop [.slot 3 (.num .i64)] .no)) (.two (.two .no (.loop [.slot 4 (.num .i64)] .no)) .no))) (fun d=>by kernel_rfl)
theorem Ae:FOk Tryz.prog 150 vf:=fok (V:=⟨tt,[],[],46,[]⟩) ak trivial mixed Tryz.func150 rfl rfl (enters_of Tryz.func150 (by kernel_rfl) rfl) rfl (Nat.le_of_ble_eq_true rfl) rfl (.two .no (.two (.two .no (.loop [.slot 5 (.num .i64)] .no)) .no)) (fun d=>by kernel_rfl)
theorem kj:FOk Tryz.prog 112 fT:=fok (V:=⟨tt,[(48,iX),(92,lO),(150,vf)],[],47,[]⟩) ak ⟨mr,mT,Ae,trivial⟩ mixed Tryz.func112 rfl rfl (enters_of Tryz.func112 (by kernel_rfl) rfl) rfl (Nat.le_of_ble_eq_true rfl) rfl (.two .no (.two (.two .no (.loop [.slot 3 (.num .i64)] .no)) .no)) (fun d=>by kernel_rfl)
theorem kX:FOk Tryz.prog 77 gZ:=fok (V:=⟨tt,[(112,fT)],[],13,[]⟩) ak ⟨kj,trivial⟩ mixed Tryz.func77 rfl rfl (enters_of Tryz.func77 (by kernel_rfl) rfl) rfl (Nat.le_of_ble_eq_true rfl) rfl .no (fun d=>by kernel_rfl)
theorem vq:FOk Tryz.prog 89 p9:=fok (V:=⟨tt,[],[],22,[]⟩) ak trivial mixed Tryz.func89 rfl rfl (enters_of Tryz.func89 (by kernel_rfl) rfl) rfl (Nat.le_of_ble_eq_true rfl) rfl (.two .no (.two (.two .no (.loop [.slot 5 (.num .i64)] .no)) .no)) (fun d=>by kernel_rfl)
theorem FO:FOk Tryz.prog 307 xm:=fok (V:=⟨tt,[(92,lO)],[],5,[]⟩) ak ⟨mT,trivial⟩ mixed Tryz.func307 rfl rfl (enters_of Tryz.func307 (by kernel_rfl) rfl) rfl (Nat.le_of_ble_eq_true rfl) rfl .no (fun d=>by kernel_rfl)
theorem Af:FOk Tryz.prog 296 tR:=fok (V:=⟨tt,[(92,lO),(307,xm)],[],87,[]⟩) ak ⟨mT,FO,trivial⟩ mixed Tryz.func296 rfl rfl (enters_of Tryz.func296 (by kernel_rfl) rfl) rfl (Nat.le_of_ble_eq_true rfl) rfl (.two .no (.two (.two .no (.join [.slot 5 .boo] .no (.two .no (.two .no (.two .no (.join [.slot 37 .boo] .no .no)))))) .no)) (fun d=>by kernel_rfl)
theorem K5:FOk Tryz.prog 293 Ca:=fok (V:=⟨tt,[(296,tR)],[],32,[]⟩) ak ⟨Af,trivial⟩ mixed Tryz.func293 rfl rfl (enters_of Tryz.func293 (by kernel_rfl) rfl) rfl (Nat.le_of_ble_eq_true rfl) rfl (.two .no (.two .no (.two (.two .no (.loop [.slot 3 (.num .i64),.slot 4 (.num .i64)] .no)) .no))) (fun d=>by kernel_rfl)
theorem Ag:FOk Tryz.prog 257 rB:=fok (V:=⟨tt,[(293,Ca)],[],11,[]⟩) ak ⟨K5,trivial⟩ mixed Tryz.func257 rfl rfl (enters_of Tryz.func257 (by kernel_rfl) rfl) rfl (Nat.le_of_ble_eq_true rfl) rfl .no (fun d=>by kernel_rfl)
theorem tW:FOk Tryz.prog 260 qa:=fok (V:=⟨tt,[(296,tR)],[],20,[]⟩) ak ⟨Af,trivial⟩ mixed Tryz.func260 rfl rfl (enters_of Tryz.func260 (by kernel_rfl) rfl) rfl (Nat.le_of_ble_eq_true rfl) rfl (.two .no (.two .no (.two .no (.two (.loop [.slot 3 (.num .i64),.slot 4 (.num .i64)] .no) .no)))) (fun d=>by kernel_rfl)
theorem Ah: ∀n,FOk Tryz.prog 258 (qb n)
 | 0=>jN (f:=qb 0) (enters_of Tryz.func258 (by kernel_rfl) rfl) rfl (fun d=>rfl)
 | n+1=>by
  have ih:=Ah n
  exact fok (V:=⟨tt,[(258,(qb n)),(260,qa)],[],54,[]⟩) ak ⟨ih,tW,trivial⟩ mixed Tryz.func258 rfl rfl (enters_of Tryz.func258 (by kernel_rfl) rfl) rfl (Nat.le_of_ble_eq_true rfl) rfl (.two .no (.two .no (.two .no (.two (.two .no (.two (.two .no (.at [.slot 15 .boo] .no)) .no)) .no)))) (fun d=>by kernel_rfl)
theorem Cp:FOk Tryz.prog 168 wC:=fok (V:=⟨tt,[],[],7,[]⟩) ak trivial mixed Tryz.func168 rfl rfl (enters_of Tryz.func168 (by kernel_rfl) rfl) rfl (Nat.le_of_ble_eq_true rfl) rfl .no (fun d=>by kernel_rfl)
theorem Cq:FOk Tryz.prog 294 wD:=fok (V:=⟨tt,[(168,wC)],[],24,[]⟩) ak ⟨Cp,trivial⟩ mixed Tryz.func294 rfl rfl (enters_of Tryz.func294 (by kernel_rfl) rfl) rfl (Nat.le_of_ble_eq_true rfl) rfl .no (fun d=>by kernel_rfl)
theorem K6:FOk Tryz.prog 306 Cb:=fok (V:=⟨tt,[],[],7,[]⟩) ak trivial mixed Tryz.func306 rfl rfl (enters_of Tryz.func306 (by kernel_rfl) rfl) rfl (Nat.le_of_ble_eq_true rfl) rfl .no (fun d=>by kernel_rfl)
theorem xx: ∀n,FOk Tryz.prog 295 (ot n)
 | 0=>jN (f:=ot 0) (enters_of Tryz.func295 (by kernel_rfl) rfl) rfl (fun d=>rfl)
 | n+1=>by
  have ih:=xx n
  exact fok (V:=⟨tt,[(294,wD),(295,(ot n)),(306,Cb)],[],28,[]⟩) ak ⟨Cq,ih,K6,trivial⟩ mixed Tryz.func295 rfl rfl (enters_of Tryz.func295 (by kernel_rfl) rfl) rfl (Nat.le_of_ble_eq_true rfl) rfl .no (fun d=>by kernel_rfl)
end R
namespace R
open Go.RowKit
open D
theorem vr: ∀n,FOk Tryz.prog 259 (mS n)
 | 0=>jN (f:=mS 0) (enters_of Tryz.func259 (by kernel_rfl) rfl) rfl (fun d=>rfl)
 | n+1=>by
  have ih:=vr n
  exact fok (V:=⟨tt,[(259,(mS n)),(260,qa),(294,wD),(295,(ot fG))],[],56,[]⟩) ak ⟨ih,tW,Cq,(xx fG),trivial⟩ mixed Tryz.func259 rfl rfl (enters_of Tryz.func259 (by kernel_rfl) rfl) rfl (Nat.le_of_ble_eq_true rfl) rfl (.two .no (.two .no (.two .no (.two (.two .no (.two (.two .no (.at [.slot 15 .boo] .no)) .no)) .no)))) (fun d=>by kernel_rfl)
theorem Bd:FOk Tryz.prog 225 sZ:=fok (V:=⟨tt,[(257,rB),(258,(qb fG)),(259,(mS fG))],[],24,[]⟩) ak ⟨Ag,(Ah fG),(vr fG),trivial⟩ mixed Tryz.func225 rfl rfl (enters_of Tryz.func225 (by kernel_rfl) rfl) rfl (Nat.le_of_ble_eq_true rfl) rfl .no (fun d=>by kernel_rfl)
theorem HP:FOk Tryz.prog 261 zK:=fok (V:=⟨tt,[],[],36,[]⟩) ak trivial mixed Tryz.func261 rfl rfl (enters_of Tryz.func261 (by kernel_rfl) rfl) rfl (Nat.le_of_ble_eq_true rfl) rfl (.two .no (.loop [.slot 6 (.num .i64),.par 3 [3] 3 y3] (.two .no (.two (.at [.par 3 [3] 3 y3] .no) .no)))) (fun d=>by kernel_rfl)
theorem xy: ∀n,FOk Tryz.prog 226 (ou n)
 | 0=>jN (f:=ou 0) (enters_of Tryz.func226 (by kernel_rfl) rfl) rfl (fun d=>rfl)
 | n+1=>by
  have ih:=xy n
  exact fok (V:=⟨tt,[(226,(ou n)),(260,qa),(261,zK)],[],163,[]⟩) ak ⟨ih,tW,HP,trivial⟩ mixed Tryz.func226 rfl rfl (enters_of Tryz.func226 (by kernel_rfl) rfl) rfl (Nat.le_of_ble_eq_true rfl) rfl (.two .no (.two .no (.two .no (.two (.two .no (.two .no (.two .no (.two .no (.two .no (.two .no (.two (.two .no (.two .no (.two .no (.two .no (.two .no (.two (.two .no (.at [.box 11 [.boo,(.num .i64),(.num .i64)]] .no)) (.two (.two .no (.at [.box 11 [.boo,(.num .i64),(.num .i64)]] .no)) .no))))))) .no))))))) .no)))) (fun d=>by kernel_rfl)
theorem vt:FOk Tryz.prog 199 ox:=fok (V:=⟨tt,[(225,sZ),(226,(ou fG))],[],51,[]⟩) ak ⟨Bd,(xy fG),trivial⟩ mixed Tryz.func199 rfl rfl (enters_of Tryz.func199 (by kernel_rfl) rfl) rfl (Nat.le_of_ble_eq_true rfl) rfl (.two .no (.two .no (.two .no (.two .no (.two (.two .no (.loop [.slot 6 (.num .i64),.slot 7 (.num .i64)] (.two .no (.two (.at [.slot 6 (.num .i64)] .no) .no)))) .no))))) (fun d=>by kernel_rfl)
theorem FP:FOk Tryz.prog 227 xn:=fok (V:=⟨tt,[],[],63,[]⟩) ak trivial mixed Tryz.func227 rfl rfl (enters_of Tryz.func227 (by kernel_rfl) rfl) rfl (Nat.le_of_ble_eq_true rfl) rfl (.two .no (.two .no (.join [.slot 7 (.num .i64)] .no (.two (.two .no (.loop [.slot 7 (.num .i64),.slot 8 (.num .i64)] (.two .no (.join [.slot 7 (.num .i64)] .no .no)))) (.two .no (.two (.two .no (.loop [.slot 9 (.num .i64),.slot 10 (.num .i64)] (.two .no (.join [.slot 9 (.num .i64)] .no .no)))) .no)))))) (fun d=>by kernel_rfl)
theorem Ai:FOk Tryz.prog 228 tS:=fok (V:=⟨tt,[],[],19,[]⟩) ak trivial mixed Tryz.func228 rfl rfl (enters_of Tryz.func228 (by kernel_rfl) rfl) rfl (Nat.le_of_ble_eq_true rfl) rfl (.two .no (.two (.two .no (.loop [.slot 5 (.num .i64)] .no)) .no)) (fun d=>by kernel_rfl)
theorem Be:FOk Tryz.prog 229 ta:=fok (V:=⟨tt,[],[],20,[]⟩) ak trivial mixed Tryz.func229 rfl rfl (enters_of Tryz.func229 (by kernel_rfl) rfl) rfl (Nat.le_of_ble_eq_true rfl) rfl .no (fun d=>by kernel_rfl)
theorem Bf:FOk Tryz.prog 200 tc:=fok (V:=⟨tt,[(227,xn),(228,tS),(229,ta)],[],73,[]⟩) ak ⟨FP,Ai,Be,trivial⟩ mixed Tryz.func200 rfl rfl (enters_of Tryz.func200 (by kernel_rfl) rfl) rfl (Nat.le_of_ble_eq_true rfl) rfl (.two .no (.two .no (.two .no (.two (.two .no (.loop [.slot 7 (.own 3 y3),.slot 8 (.num .i64),.box 6 [(.num .i64),(.own 4 y4),(.own 26 y26)]] (.two .no (.two (.two .no (.two (.two .no (.loop [.slot 7 (.own 3 y3),.slot 9 (.own 3 y3),.slot 10 (.num .i64)] (.two .no (.two (.two .no (.two .no (.join [.slot 7 (.own 3 y3),.slot 12 (.num .i64)] .no .no))) .no)))) .no)) .no)))) .no)))) (fun d=>by kernel_rfl)
theorem Bg:FOk Tryz.prog 262 te:=fok (V:=⟨tt,[],[],15,[]⟩) ak trivial mixed Tryz.func262 rfl rfl (enters_of Tryz.func262 (by kernel_rfl) rfl) rfl (Nat.le_of_ble_eq_true rfl) rfl (.two .no (.two .no (.two (.two .no (.loop [.slot 1 (.own 3 y3),.slot 2 (.num .i64)] .no)) .no))) (fun d=>by kernel_rfl)
theorem Dv:FOk Tryz.prog 230 vh:=fok (V:=⟨tt,[(228,tS),(262,te)],[],107,[]⟩) ak ⟨Ai,Bg,trivial⟩ mixed Tryz.func230 rfl rfl (enters_of Tryz.func230 (by kernel_rfl) rfl) rfl (Nat.le_of_ble_eq_true rfl) rfl (.two .no (.two .no (.two .no (.two .no (.two .no (.two (.two .no (.loop [.slot 8 (.own 3 y3),.slot 9 (.own 3 y3),.slot 10 (.num .i64),.box 7 [(.num .i64),(.own 4 y4),(.own 26 y26)]] (.two .no (.two (.two .no (.two (.two .no (.loop [.slot 8 (.own 3 y3),.slot 9 (.own 3 y3),.slot 11 (.own 3 y3),.slot 12 (.num .i64)] (.two .no (.two (.two .no (.two .no (.join [.slot 8 (.own 3 y3),.slot 9 (.own 3 y3),.slot 14 (.num .i64)] .no .no))) .no)))) .no)) .no)))) .no)))))) (fun d=>by kernel_rfl)
theorem Aj:FOk Tryz.prog 232 tT:=fok (V:=⟨tt,[],[],55,[]⟩) ak trivial mixed Tryz.func232 rfl rfl (enters_of Tryz.func232 (by kernel_rfl) rfl) rfl (Nat.le_of_ble_eq_true rfl) rfl (.two .no (.two .no (.two (.two .no (.loop [.row 3 4 y4,.slot 4 (.num .i64)] (.two .no (.two (.two .no (.loop [.row 3 4 y4,.slot 5 (.num .i64)] (.two .no (.two (.two .no (.loop [.row 3 4 y4,.slot 6 (.num .i64)] (.two .no (.join [.row 3 4 y4] .no .no)))) .no)))) .no)))) .no))) (fun d=>by kernel_rfl)
theorem K7:FOk Tryz.prog 263 Cc:=fok (V:=⟨tt,[],[],40,[]⟩) ak trivial mixed Tryz.func263 rfl rfl (enters_of Tryz.func263 (by kernel_rfl) rfl) rfl (Nat.le_of_ble_eq_true rfl) rfl (.two .no (.two .no (.two (.two .no (.loop [.slot 7 (.own 3 y3),.slot 8 (.num .i64)] (.two .no (.join [.slot 7 (.own 3 y3)] .no .no)))) .no))) (fun d=>by kernel_rfl)
theorem Bh:FOk Tryz.prog 231 tf:=fok (V:=⟨tt,[(150,vf),(232,tT),(263,Cc)],[],99,[]⟩) ak ⟨Ae,Aj,K7,trivial⟩ mixed Tryz.func231 rfl rfl (enters_of Tryz.func231 (by kernel_rfl) rfl) rfl (Nat.le_of_ble_eq_true rfl) rfl (.two .no (.two .no (.two .no (.two (.two .no (.loop [.slot 4 (.own 3 y3),.slot 5 (.num .i64)] (.two .no (.two (.two .no (.two (.two .no (.at [.slot 6 (.num .i64)] .no)) (.two (.two .no (.at [.slot 6 (.num .i64)] .no)) .no))) .no)))) (.two (.two .no (.loop [.slot 4 (.own 3 y3),.slot 7 (.num .i64)] (.two .no (.two (.two .no (.two .no (.two (.two .no (.loop [.slot 8 (.own 26 y26),.slot 9 (.own 3 y3),.slot 10 (.num .i64)] (.two .no (.two (.at [.slot 8 (.own 26 y26),.slot 9 (.own 3 y3)] (.two .no (.two .no (.two .no (.two (.two .no (.loop [.slot 12 (.num .i64),.slot 13 (.num .i64)] (.two .no (.two (.at [.slot 12 (.num .i64)] .no) .no)))) (.two (.two .no (.at [.slot 8 (.own 26 y26),.slot 12 (.num .i64),.gone 11] .no)) .no)))))) .no)))) .no))) .no)))) .no))))) (fun d=>by kernel_rfl)
theorem Ak:FOk Tryz.prog 201 rC:=fok (V:=⟨tt,[(230,vh),(231,tf),(232,tT)],[],9,[]⟩) ak ⟨Dv,Bh,Aj,trivial⟩ mixed Tryz.func201 rfl rfl (enters_of Tryz.func201 (by kernel_rfl) rfl) rfl (Nat.le_of_ble_eq_true rfl) rfl .no (fun d=>by kernel_rfl)
theorem Al:FOk Tryz.prog 166 rD:=fok (V:=⟨tt,[(199,ox),(200,tc),(201,rC)],[],33,[]⟩) ak ⟨vt,Bf,Ak,trivial⟩ mixed Tryz.func166 rfl rfl (enters_of Tryz.func166 (by kernel_rfl) rfl) rfl (Nat.le_of_ble_eq_true rfl) rfl .no (fun d=>by kernel_rfl)
theorem ph:FOk Tryz.prog 169 kV:=fok (V:=⟨tt,[(150,vf)],[],67,[]⟩) ak ⟨Ae,trivial⟩ mixed Tryz.func169 rfl rfl (enters_of Tryz.func169 (by kernel_rfl) rfl) rfl (Nat.le_of_ble_eq_true rfl) rfl (.two .no (.two .no (.two (.two .no (.loop [.slot 5 (.num .i64)] .no)) (.two (.two .no (.loop [.slot 6 (.num .i64)] .no)) .no)))) (fun d=>by kernel_rfl)
end R
namespace R
open Go.RowKit
open D
theorem FQ:FOk Tryz.prog 167 xo:=fok (V:=⟨tt,[(169,kV)],[],19,[]⟩) ak ⟨ph,trivial⟩ mixed Tryz.func167 rfl rfl (enters_of Tryz.func167 (by kernel_rfl) rfl) rfl (Nat.le_of_ble_eq_true rfl) rfl (.two .no (.two (.two .no (.loop [.slot 5 (.num .i64)] .no)) .no)) (fun d=>by kernel_rfl)
theorem FR:FOk Tryz.prog 129 xp:=fok (V:=⟨tt,[(92,lO),(166,rD),(167,xo),(168,wC)],[],94,[]⟩) ak ⟨mT,Al,FQ,Cp,trivial⟩ mixed Tryz.func129 rfl rfl (enters_of Tryz.func129 (by kernel_rfl) rfl) rfl (Nat.le_of_ble_eq_true rfl) rfl (.two .no (.two .no (.two .no (.two (.two .no (.loop [.slot 5 (.num .i64),.box 4 [(.own 92 y92),(.own 146 FC)]] (.two .no (.two (.two .no (.two .no (.two .no (.join [.slot 8 (.num .i64),.box 4 [(.own 92 y92),(.own 146 FC)],.gone 6] .no .no)))) .no)))) .no)))) (fun d=>by kernel_rfl)
theorem Bi:FOk Tryz.prog 170 tg:=fok (V:=⟨tt,[],[],31,[]⟩) ak trivial mixed Tryz.func170 rfl rfl (enters_of Tryz.func170 (by kernel_rfl) rfl) rfl (Nat.le_of_ble_eq_true rfl) rfl (.two .no (.two .no (.two (.two .no (.loop [.slot 5 (.num .i64)] .no)) .no))) (fun d=>by kernel_rfl)
theorem tX:FOk Tryz.prog 130 nH:=fok (V:=⟨tt,[(169,kV),(170,tg)],[],93,[]⟩) ak ⟨ph,Bi,trivial⟩ mixed Tryz.func130 rfl rfl (enters_of Tryz.func130 (by kernel_rfl) rfl) rfl (Nat.le_of_ble_eq_true rfl) rfl (.two .no (.two .no (.two (.two .no (.loop [.slot 5 (.num .i64)] .no)) (.two (.two .no (.loop [.slot 6 (.num .i64)] .no)) .no)))) (fun d=>by kernel_rfl)
theorem nP:FOk Tryz.prog 90 jh:=fok (V:=⟨tt,[(129,xp),(130,nH)],[],17,[]⟩) ak ⟨FR,tX,trivial⟩ mixed Tryz.func90 rfl rfl (enters_of Tryz.func90 (by kernel_rfl) rfl) rfl (Nat.le_of_ble_eq_true rfl) rfl .no (fun d=>by kernel_rfl)
theorem HQ:FOk Tryz.prog 67 zL:=fok (V:=⟨tt,[(77,gZ),(89,p9),(90,jh),(112,fT)],[],32,[]⟩) ak ⟨kX,vq,nP,kj,trivial⟩ mixed Tryz.func67 rfl rfl (enters_of Tryz.func67 (by kernel_rfl) rfl) rfl (Nat.le_of_ble_eq_true rfl) rfl .no (fun d=>by kernel_rfl)
theorem HS:FOk Tryz.prog 91 zM:=fok (V:=⟨tt,[],[],32,[]⟩) ak trivial mixed Tryz.func91 rfl rfl (enters_of Tryz.func91 (by kernel_rfl) rfl) rfl (Nat.le_of_ble_eq_true rfl) rfl (.two .no (.two .no (.two (.two .no (.loop [.slot 4 (.num .i64),.box 3 [(.num .i64),(.own 4 y4),(.own 26 y26)]] .no)) .no))) (fun d=>by kernel_rfl)
theorem vu:FOk Tryz.prog 47 oy:=fok (V:=⟨tt,[(89,p9),(90,jh),(91,zM)],[],29,[]⟩) ak ⟨vq,nP,HS,trivial⟩ mixed Tryz.func47 rfl rfl (enters_of Tryz.func47 (by kernel_rfl) rfl) rfl (Nat.le_of_ble_eq_true rfl) rfl .no (fun d=>by kernel_rfl)
theorem HT:FOk Tryz.prog 171 zN:=fok (V:=⟨tt,[(92,lO)],[],50,[]⟩) ak ⟨mT,trivial⟩ mixed Tryz.func171 rfl rfl (enters_of Tryz.func171 (by kernel_rfl) rfl) rfl (Nat.le_of_ble_eq_true rfl) rfl (.two .no (.two .no (.two .no (.two (.two .no (.loop [.slot 4 (.num .i64)] (.two .no (.two (.two .no (.two .no (.loop [.slot 5 (.num .i64)] .no))) .no)))) .no)))) (fun d=>by kernel_rfl)
theorem sO:FOk Tryz.prog 131 mz:=fok (V:=⟨tt,[(171,zN)],[],11,[]⟩) ak ⟨HT,trivial⟩ mixed Tryz.func131 rfl rfl (enters_of Tryz.func131 (by kernel_rfl) rfl) rfl (Nat.le_of_ble_eq_true rfl) rfl .no (fun d=>by kernel_rfl)
theorem HU:FOk Tryz.prog 94 zO:=fok (V:=⟨tt,[(48,iX),(92,lO),(131,mz)],[],31,[]⟩) ak ⟨mr,mT,sO,trivial⟩ mixed Tryz.func94 rfl rfl (enters_of Tryz.func94 (by kernel_rfl) rfl) rfl (Nat.le_of_ble_eq_true rfl) rfl .no (fun d=>by kernel_rfl)
theorem tp:FOk Tryz.prog 173 oN:=fok (V:=⟨tt,[],[],31,[]⟩) ak trivial mixed Tryz.func173 rfl rfl (enters_of Tryz.func173 (by kernel_rfl) rfl) rfl (Nat.le_of_ble_eq_true rfl) rfl (.two .no (.two .no (.two (.loop [.slot 1 (.num .i64),.slot 7 (.num .i64)] .no) .no))) (fun d=>by kernel_rfl)
theorem K8:FOk Tryz.prog 202 Cd:=fok (V:=⟨tt,[],[],52,[]⟩) ak trivial mixed Tryz.func202 rfl rfl (enters_of Tryz.func202 (by kernel_rfl) rfl) rfl (Nat.le_of_ble_eq_true rfl) rfl (.two .no (.two .no (.two (.two .no (.loop [.slot 5 (.own 203 UV),.slot 6 (.num .i64)] (.two .no (.join [.slot 5 (.own 203 UV)] (.join [.slot 5 (.own 203 UV)] .no .no) .no)))) .no))) (fun d=>by kernel_rfl)
theorem Dw:FOk Tryz.prog 203 vi:=fok (V:=⟨tt,[],[],22,[]⟩) ak trivial mixed Tryz.func203 rfl rfl (enters_of Tryz.func203 (by kernel_rfl) rfl) rfl (Nat.le_of_ble_eq_true rfl) rfl (.two .no (.two (.two .no (.loop [.slot 5 (.num .i64)] .no)) .no)) (fun d=>by kernel_rfl)
theorem Dx:FOk Tryz.prog 204 vj:=fok (V:=⟨tt,[],[],13,[]⟩) ak trivial mixed Tryz.func204 rfl rfl (enters_of Tryz.func204 (by kernel_rfl) rfl) rfl (Nat.le_of_ble_eq_true rfl) rfl .no (fun d=>by kernel_rfl)
theorem NV:FOk Tryz.prog 205 FD:=fok (V:=⟨tt,[],[],10,[]⟩) ak trivial mixed Tryz.func205 rfl rfl (enters_of Tryz.func205 (by kernel_rfl) rfl) rfl (Nat.le_of_ble_eq_true rfl) rfl .no (fun d=>by kernel_rfl)
theorem FU:FOk Tryz.prog 172 xq:=fok (V:=⟨tt,[(173,oN),(202,Cd),(203,vi),(204,vj),(205,FD)],[],110,[]⟩) ak ⟨tp,K8,Dw,Dx,NV,trivial⟩ mixed Tryz.func172 rfl rfl (enters_of Tryz.func172 (by kernel_rfl) rfl) rfl (Nat.le_of_ble_eq_true rfl) rfl (.two .no (.two .no (.two .no (.two .no (.two (.two .no (.loop [.slot 9 (.own 205 WB),.slot 12 (.num .i64)] (.two .no (.two (.two .no (.two .no (.two (.two .no (.loop [.slot 14 (.num .i64),.slot 15 (.num .i64)] (.two .no (.join [.slot 14 (.num .i64)] .no .no)))) (.two .no (.loop [.slot 9 (.own 205 WB),.slot 17 (.num .i64)] (.two .no (.join [.slot 9 (.own 205 WB)] .no .no))))))) .no)))) .no))))) (fun d=>by kernel_rfl)
end R
namespace R
open Go.RowKit
open D
theorem FV:FOk Tryz.prog 132 xr:=fok (V:=⟨tt,[(172,xq)],[],104,[]⟩) ak ⟨FU,trivial⟩ mixed Tryz.func132 rfl rfl (enters_of Tryz.func132 (by kernel_rfl) rfl) rfl (Nat.le_of_ble_eq_true rfl) rfl (.two .no (.two .no (.two .no (.two (.two .no (.loop [.slot 8 (.own 3 y3),.slot 9 (.num .i64)] .no)) (.two .no (.two .no (.two (.two .no (.loop [.row 8 3 y3,.slot 10 (.own 3 y3),.slot 11 (.num .i64)] (.two .no (.two (.two .no (.two .no (.loop [.row 8 3 y3,.slot 10 (.own 3 y3),.slot 13 (.num .i64)] (.two .no (.join [.row 8 3 y3,.slot 10 (.own 3 y3)] .no .no))))) .no)))) .no))))))) (fun d=>by kernel_rfl)
theorem Bj:FOk Tryz.prog 133 th:=fok (V:=⟨tt,[(173,oN)],[],38,[]⟩) ak ⟨tp,trivial⟩ mixed Tryz.func133 rfl rfl (enters_of Tryz.func133 (by kernel_rfl) rfl) rfl (Nat.le_of_ble_eq_true rfl) rfl (.two .no (.two .no (.two (.two .no (.loop [.slot 10 (.num .i64)] .no)) .no))) (fun d=>by kernel_rfl)
theorem NW:FOk Tryz.prog 134 FE:=fok (V:=⟨tt,[],[],20,[]⟩) ak trivial mixed Tryz.func134 rfl rfl (enters_of Tryz.func134 (by kernel_rfl) rfl) rfl (Nat.le_of_ble_eq_true rfl) rfl (.two .no (.two .no (.two (.two .no (.loop [.slot 3 (.own 3 y3),.slot 4 (.num .i64)] (.two .no (.join [.slot 3 (.own 3 y3)] .no .no)))) .no))) (fun d=>by kernel_rfl)
theorem HV:FOk Tryz.prog 95 zP:=fok (V:=⟨tt,[(132,xr),(133,th),(134,FE)],[],48,[]⟩) ak ⟨FV,Bj,NW,trivial⟩ mixed Tryz.func95 rfl rfl (enters_of Tryz.func95 (by kernel_rfl) rfl) rfl (Nat.le_of_ble_eq_true rfl) rfl (.two .no (.two .no (.two .no (.two .no (.two (.two .no (.loop [.slot 9 (.num .i64),.slot 10 (.num .i64)] (.two .no (.join [.slot 9 (.num .i64)] .no .no)))) .no))))) (fun d=>by kernel_rfl)
theorem Bk:FOk Tryz.prog 49 tj:=fok (V:=⟨tt,[(94,zO),(95,zP)],[],42,[]⟩) ak ⟨HU,HV,trivial⟩ mixed Tryz.func49 rfl rfl (enters_of Tryz.func49 (by kernel_rfl) rfl) rfl (Nat.le_of_ble_eq_true rfl) rfl (.two .no (.two .no (.two (.two .no (.loop [.slot 5 (.own 103 sH),.slot 6 (.num .i64)] (.two .no (.two (.two .no (.two .no (.loop [.slot 5 (.own 103 sH),.slot 8 (.num .i64)] .no))) .no)))) .no))) (fun d=>by kernel_rfl)
theorem xP:FOk Tryz.prog 10 qz:=fok (V:=⟨tt,[(47,oy),(48,iX),(49,tj)],[],27,[]⟩) ak ⟨vu,mr,Bk,trivial⟩ mixed Tryz.func10 rfl rfl (enters_of Tryz.func10 (by kernel_rfl) rfl) rfl (Nat.le_of_ble_eq_true rfl) rfl .no (fun d=>by kernel_rfl)
theorem K9:FOk Tryz.prog 117 Ce:=fok (V:=⟨tt,[],[],12,[]⟩) ak trivial mixed Tryz.func117 rfl rfl (enters_of Tryz.func117 (by kernel_rfl) rfl) rfl (Nat.le_of_ble_eq_true rfl) rfl .no (fun d=>by kernel_rfl)
theorem HW:FOk Tryz.prog 80 zQ:=fok (V:=⟨tt,[(77,gZ),(92,lO),(112,fT),(117,Ce)],[],28,[]⟩) ak ⟨kX,mT,kj,K9,trivial⟩ mixed Tryz.func80 rfl rfl (enters_of Tryz.func80 (by kernel_rfl) rfl) rfl (Nat.le_of_ble_eq_true rfl) rfl .no (fun d=>by kernel_rfl)
theorem La:FOk Tryz.prog 157 Cf:=fok (V:=⟨tt,[],[],18,[]⟩) ak trivial mixed Tryz.func157 rfl rfl (enters_of Tryz.func157 (by kernel_rfl) rfl) rfl (Nat.le_of_ble_eq_true rfl) rfl (.two .no (.two (.two .no (.loop [.slot 5 (.num .i64)] .no)) .no)) (fun d=>by kernel_rfl)
theorem HY:FOk Tryz.prog 155 zR:=fok (V:=⟨tt,[],[],24,[]⟩) ak trivial mixed Tryz.func155 rfl rfl (enters_of Tryz.func155 (by kernel_rfl) rfl) rfl (Nat.le_of_ble_eq_true rfl) rfl .no (fun d=>by kernel_rfl)
theorem Lb:FOk Tryz.prog 190 Cg:=fok (V:=⟨tt,[(155,zR)],[(36,.bool)],45,[]⟩) ak ⟨HY,trivial⟩ mixed Tryz.func190 rfl rfl (enters_of Tryz.func190 (by kernel_rfl) rfl) rfl (Nat.le_of_ble_eq_true rfl) rfl (.two .no (.two .no (.two (.loop [.slot 5 (.num .i64)] .no) .no))) (fun d=>by kernel_rfl)
theorem wI:FOk Tryz.prog 151 pb:=fok (V:=⟨tt,[(157,Cf),(190,Cg)],[],28,[]⟩) ak ⟨La,Lb,trivial⟩ mixed Tryz.func151 rfl rfl (enters_of Tryz.func151 (by kernel_rfl) rfl) rfl (Nat.le_of_ble_eq_true rfl) rfl (.two .no (.two .no (.two (.two .no (.loop [.slot 5 (.own 103 sH),.slot 6 (.num .i64)] (.two .no (.join [.slot 5 (.own 103 sH)] .no .no)))) .no))) (fun d=>by kernel_rfl)
theorem xQ:FOk Tryz.prog 113 qA:=fok (V:=⟨tt,[(151,pb)],[],12,[]⟩) ak ⟨wI,trivial⟩ mixed Tryz.func113 rfl rfl (enters_of Tryz.func113 (by kernel_rfl) rfl) rfl (Nat.le_of_ble_eq_true rfl) rfl .no (fun d=>by kernel_rfl)
theorem Bl:FOk Tryz.prog 68 tk:=fok (V:=⟨tt,[(10,qz),(80,zQ),(113,qA)],[],60,[]⟩) ak ⟨xP,HW,xQ,trivial⟩ mixed Tryz.func68 rfl rfl (enters_of Tryz.func68 (by kernel_rfl) rfl) rfl (Nat.le_of_ble_eq_true rfl) rfl .no (fun d=>by kernel_rfl)
theorem Am:FOk Tryz.prog 32 rE:=fok (V:=⟨tt,[(67,zL),(68,tk),(77,gZ)],[],29,[]⟩) ak ⟨HQ,Bl,kX,trivial⟩ mixed Tryz.func32 rfl rfl (enters_of Tryz.func32 (by kernel_rfl) rfl) rfl (Nat.le_of_ble_eq_true rfl) rfl .no (fun d=>by kernel_rfl)
theorem hZ:FOk Tryz.prog 102 fN:=fok (V:=⟨tt,[],[],15,[]⟩) ak trivial mixed Tryz.func102 rfl rfl (enters_of Tryz.func102 (by kernel_rfl) rfl) rfl (Nat.le_of_ble_eq_true rfl) rfl .no (fun d=>by kernel_rfl)
theorem Lc:FOk Tryz.prog 103 Ci:=fok (V:=⟨tt,[(102,fN)],[],27,[]⟩) ak ⟨hZ,trivial⟩ mixed Tryz.func103 rfl rfl (enters_of Tryz.func103 (by kernel_rfl) rfl) rfl (Nat.le_of_ble_eq_true rfl) rfl .no (fun d=>by kernel_rfl)
end R
namespace R
open Go.RowKit
open D
theorem mu:FOk Tryz.prog 55 iY:=fok (V:=⟨tt,[(102,fN),(103,Ci)],[],59,[]⟩) ak ⟨hZ,Lc,trivial⟩ mixed Tryz.func55 rfl rfl (enters_of Tryz.func55 (by kernel_rfl) rfl) rfl (Nat.le_of_ble_eq_true rfl) rfl (.two .no (.two .no (.two (.two .no (.loop [.slot 14 (.num .i64)] .no)) (.two (.two .no (.loop [.slot 25 (.num .i64)] .no)) .no)))) (fun d=>by kernel_rfl)
theorem dI:FOk Tryz.prog 152 cy:=fok (V:=⟨tt,[],[],26,[]⟩) ak trivial mixed Tryz.func152 rfl rfl (enters_of Tryz.func152 (by kernel_rfl) rfl) rfl (Nat.le_of_ble_eq_true rfl) rfl (.two .no (.two .no (.two (.two .no (.loop [.slot 13 (.num .i64)] .no)) .no))) (fun d=>by kernel_rfl)
theorem kl:FOk Tryz.prog 114 fU:=fok (V:=⟨tt,[(55,iY),(102,fN),(152,cy)],[],43,[]⟩) ak ⟨mu,hZ,dI,trivial⟩ mixed Tryz.func114 rfl rfl (enters_of Tryz.func114 (by kernel_rfl) rfl) rfl (Nat.le_of_ble_eq_true rfl) rfl (.two .no (.two .no (.two .no (.two (.two .no (.loop [.slot 24 (.num .i64)] .no)) .no)))) (fun d=>by kernel_rfl)
theorem kY:FOk Tryz.prog 78 hY:=fok (V:=⟨tt,[(114,fU)],[],13,[]⟩) ak ⟨kl,trivial⟩ mixed Tryz.func78 rfl rfl (enters_of Tryz.func78 (by kernel_rfl) rfl) rfl (Nat.le_of_ble_eq_true rfl) rfl .no (fun d=>by kernel_rfl)
theorem fh:FOk Tryz.prog 138 cj:=fok (V:=⟨tt,[],[],19,[]⟩) ak trivial mixed Tryz.func138 rfl rfl (enters_of Tryz.func138 (by kernel_rfl) rfl) rfl (Nat.le_of_ble_eq_true rfl) rfl (.two .no (.two (.two .no (.loop [.slot 8 (.num .i64)] .no)) .no)) (fun d=>by kernel_rfl)
theorem An:FOk Tryz.prog 139 rF:=fok (V:=⟨tt,[],[],8,[]⟩) ak trivial mixed Tryz.func139 rfl rfl (enters_of Tryz.func139 (by kernel_rfl) rfl) rfl (Nat.le_of_ble_eq_true rfl) rfl .no (fun d=>by kernel_rfl)
theorem vv:FOk Tryz.prog 99 qc:=fok (V:=⟨tt,[(138,cj),(139,rF)],[],9,[]⟩) ak ⟨fh,An,trivial⟩ mixed Tryz.func99 rfl rfl (enters_of Tryz.func99 (by kernel_rfl) rfl) rfl (Nat.le_of_ble_eq_true rfl) rfl .no (fun d=>by kernel_rfl)
theorem xz:FOk Tryz.prog 244 rG:=fok (V:=⟨tt,[(102,fN)],[],5,[]⟩) ak ⟨hZ,trivial⟩ mixed Tryz.func244 rfl rfl (enters_of Tryz.func244 (by kernel_rfl) rfl) rfl (Nat.le_of_ble_eq_true rfl) rfl .no (fun d=>by kernel_rfl)
theorem HZ:FOk Tryz.prog 269 zS:=fok (V:=⟨tt,[(102,fN),(244,rG)],[],48,[]⟩) ak ⟨hZ,xz,trivial⟩ mixed Tryz.func269 rfl rfl (enters_of Tryz.func269 (by kernel_rfl) rfl) rfl (Nat.le_of_ble_eq_true rfl) rfl (.two .no (.two (.two .no (.two .no (.two .no (.two .no (.two .no (.join [.slot 37 .boo] .no .no)))))) .no)) (fun d=>by kernel_rfl)
theorem mw:FOk Tryz.prog 270 aY:=Fz (f:=aY) (jN (f:=⟨aY.ps,aY.rs,aY.m,none⟩) (enters_of Tryz.func270 (by kernel_rfl) rfl) rfl (fun d=>rfl)) (Jy (V:=⟨tt,[],[(5,.raw)],8,[]⟩) ak trivial mixed Tryz.func270 rfl rfl (enters_of Tryz.func270 (by kernel_rfl) rfl) (Nat.le_of_ble_eq_true rfl) .no (fun E bn xs=>by cases bn <;> kernel_rfl))
theorem wJ:FOk Tryz.prog 235 sJ:=fok (V:=⟨tt,[(269,zS),(270,aY)],[],56,[(294,263,xf)]⟩) ak ⟨HZ,mw,trivial⟩ mixed Tryz.func235 rfl rfl (enters_of Tryz.func235 (by kernel_rfl) rfl) rfl (Nat.le_of_ble_eq_true rfl) rfl (.two .no (.two .no (.two (.two .no (.loop [.slot 3 (.own 263 Yb),.slot 13 (.num .i64)] (.two .no (.two .no (.two (.two .no (.two .no (.two (.two .no (.at [.slot 6 (.num .i64)] (.two (.two .no (.at [.slot 19 .boo] .no)) (.two .no (.two (.two .no (.at [.slot 22 .boo] .no)) .no))))) .no))) .no))))) .no))) (fun d=>by kernel_rfl)
theorem Ld:FOk Tryz.prog 297 Cj:=fok (V:=⟨tt,[(235,sJ)],[],6,[(294,263,xf)]⟩) ak ⟨wJ,trivial⟩ mixed Tryz.func297 rfl rfl (enters_of Tryz.func297 (by kernel_rfl) rfl) rfl (Nat.le_of_ble_eq_true rfl) rfl .no (fun d=>by kernel_rfl)
theorem Ao:FOk Tryz.prog 264 rH:=fok (V:=⟨tt,[(297,Cj)],[],11,[]⟩) ak ⟨Ld,trivial⟩ mixed Tryz.func264 rfl rfl (enters_of Tryz.func264 (by kernel_rfl) rfl) rfl (Nat.le_of_ble_eq_true rfl) rfl .no (fun d=>by kernel_rfl)
theorem tq: ∀n,FOk Tryz.prog 265 (lP n)
 | 0=>jN (f:=lP 0) (enters_of Tryz.func265 (by kernel_rfl) rfl) rfl (fun d=>rfl)
 | n+1=>by
  have ih:=tq n
  exact fok (V:=⟨tt,[(265,(lP n))],[],39,[(294,263,xf)]⟩) ak ⟨ih,trivial⟩ mixed Tryz.func265 rfl rfl (enters_of Tryz.func265 (by kernel_rfl) rfl) rfl (Nat.le_of_ble_eq_true rfl) rfl (.two .no (.two .no (.two (.two .no (.loop [.slot 3 (.num .i64),.slot 11 (.num .i64)] (.two .no (.two .no (.two (.at [.slot 3 (.num .i64)] .no) .no))))) .no))) (fun d=>by kernel_rfl)
theorem Rb:FOk Tryz.prog 308 JB:=fok (V:=⟨tt,[],[],7,[(294,263,xf)]⟩) ak trivial mixed Tryz.func308 rfl rfl (enters_of Tryz.func308 (by kernel_rfl) rfl) rfl (Nat.le_of_ble_eq_true rfl) rfl .no (fun d=>by kernel_rfl)
theorem xA: ∀n,FOk Tryz.prog 298 (oz n)
 | 0=>jN (f:=oz 0) (enters_of Tryz.func298 (by kernel_rfl) rfl) rfl (fun d=>rfl)
 | n+1=>by
  have ih:=xA n
  exact fok (V:=⟨tt,[(298,(oz n)),(308,JB)],[],32,[(294,263,xf)]⟩) ak ⟨ih,Rb,trivial⟩ mixed Tryz.func298 rfl rfl (enters_of Tryz.func298 (by kernel_rfl) rfl) rfl (Nat.le_of_ble_eq_true rfl) rfl .no (fun d=>by kernel_rfl)
theorem rN: ∀n,FOk Tryz.prog 266 (kh n)
 | 0=>jN (f:=kh 0) (enters_of Tryz.func266 (by kernel_rfl) rfl) rfl (fun d=>rfl)
 | n+1=>by
  have ih:=rN n
  exact fok (V:=⟨tt,[(266,(kh n)),(298,(oz fG))],[(52,t263)],58,[(294,263,xf)]⟩) ak ⟨ih,(xA fG),trivial⟩ mixed Tryz.func266 rfl rfl (enters_of Tryz.func266 (by kernel_rfl) rfl) rfl (Nat.le_of_ble_eq_true rfl) rfl (.two .no (.two .no (.two .no (.two (.two .no (.loop [.slot 41 (.num .i64),.box 3 [(.num .i64),(.num .i64),(.num .i64),(.num .i64),(.own 263 (.tree 294 263 xf))]] .no)) .no)))) (fun d=>by kernel_rfl)
end R
namespace R
open Go.RowKit
open D
theorem qH: ∀n,FOk Tryz.prog 299 (iZ n)
 | 0=>jN (f:=iZ 0) (enters_of Tryz.func299 (by kernel_rfl) rfl) rfl (fun d=>rfl)
 | n+1=>by
  have ih:=qH n
  exact fok (V:=⟨tt,[(299,(iZ n))],[],32,[(294,263,xf)]⟩) ak ⟨ih,trivial⟩ mixed Tryz.func299 rfl rfl (enters_of Tryz.func299 (by kernel_rfl) rfl) rfl (Nat.le_of_ble_eq_true rfl) rfl (.two (.two .no (.loop [.slot 11 (.num .i64),.box 1 [(.own 188 xf)]] .no)) .no) (fun d=>by kernel_rfl)
theorem Dy:FOk Tryz.prog 267 vk:=fok (V:=⟨tt,[(299,(iZ fG))],[],8,[(294,263,xf)]⟩) ak ⟨(qH fG),trivial⟩ mixed Tryz.func267 rfl rfl (enters_of Tryz.func267 (by kernel_rfl) rfl) rfl (Nat.le_of_ble_eq_true rfl) rfl .no (fun d=>by kernel_rfl)
theorem Bm:FOk Tryz.prog 233 tl:=fok (V:=⟨tt,[(235,sJ),(264,rH),(265,(lP fG)),(266,(kh fG)),(267,vk)],[],25,[(294,263,xf)]⟩) ak ⟨wJ,Ao,(tq fG),(rN fG),Dy,trivial⟩ mixed Tryz.func233 rfl rfl (enters_of Tryz.func233 (by kernel_rfl) rfl) rfl (Nat.le_of_ble_eq_true rfl) rfl .no (fun d=>by kernel_rfl)
theorem sP:FOk Tryz.prog 268 mA:=fok (V:=⟨tt,[],[],31,[]⟩) ak trivial mixed Tryz.func268 rfl rfl (enters_of Tryz.func268 (by kernel_rfl) rfl) rfl (Nat.le_of_ble_eq_true rfl) rfl (.two .no (.loop [.slot 12 (.num .i64),.par 3 [3] 3 y3] (.two .no (.two .no (.two (.at [.par 3 [3] 3 y3] .no) .no))))) (fun d=>by kernel_rfl)
theorem nQ: ∀n,FOk Tryz.prog 234 (fE n)
 | 0=>jN (f:=fE 0) (enters_of Tryz.func234 (by kernel_rfl) rfl) rfl (fun d=>rfl)
 | n+1=>by
  have ih:=nQ n
  exact fok (V:=⟨tt,[(234,(fE n)),(268,mA)],[],163,[(294,263,xf)]⟩) ak ⟨ih,sP,trivial⟩ mixed Tryz.func234 rfl rfl (enters_of Tryz.func234 (by kernel_rfl) rfl) rfl (Nat.le_of_ble_eq_true rfl) rfl (.two .no (.two (.two .no (.two .no (.two .no (.two .no (.two .no (.two .no (.two .no (.two .no (.two (.two .no (.two .no (.two .no (.two (.two .no (.at [.box 10 [(.num .i64),(.num .i64),.boo]] .no)) (.two (.two .no (.at [.box 10 [(.num .i64),(.num .i64),.boo]] .no)) .no))))) .no))))))))) .no)) (fun d=>by kernel_rfl)
theorem vx:FOk Tryz.prog 207 oA:=fok (V:=⟨tt,[(233,tl),(234,(fE fG)),(235,sJ)],[],49,[(294,263,xf)]⟩) ak ⟨Bm,(nQ fG),wJ,trivial⟩ mixed Tryz.func207 rfl rfl (enters_of Tryz.func207 (by kernel_rfl) rfl) rfl (Nat.le_of_ble_eq_true rfl) rfl (.two .no (.two .no (.two .no (.two .no (.two (.two .no (.loop [.slot 6 (.num .i64),.slot 22 (.num .i64)] (.two .no (.two .no (.two (.at [.slot 6 (.num .i64)] .no) .no))))) .no))))) (fun d=>by kernel_rfl)
theorem qI:FOk Tryz.prog 236 mq:=fok (V:=⟨tt,[],[],96,[]⟩) ak trivial mixed Tryz.func236 rfl rfl (enters_of Tryz.func236 (by kernel_rfl) rfl) rfl (Nat.le_of_ble_eq_true rfl) rfl (.two .no (.two .no (.two .no (.two .no (.two (.two .no (.loop [.slot 10 (.own 3 y3),.slot 11 (.map ⟨3,3,.int,.int⟩),.slot 13 (.num .i64),.box 12 [(.num .i64),(.own 4 y4),(.own 26 y26)]] (.two .no (.two (.two .no (.two (.two .no (.loop [.slot 10 (.own 3 y3),.slot 11 (.map ⟨3,3,.int,.int⟩),.slot 14 (.own 3 y3),.slot 15 (.num .i64)] (.two .no (.join [.slot 10 (.own 3 y3),.slot 11 (.map ⟨3,3,.int,.int⟩),.slot 14 (.own 3 y3)] (.two .no (.two .no (.two .no (.join [.slot 10 (.own 3 y3),.slot 11 (.map ⟨3,3,.int,.int⟩),.slot 18 (.num .i64)] .no .no)))) .no)))) .no)) .no)))) .no))))) (fun d=>by kernel_rfl)
theorem rO:FOk Tryz.prog 237 l8:=fok (V:=⟨tt,[],[],20,[]⟩) ak trivial mixed Tryz.func237 rfl rfl (enters_of Tryz.func237 (by kernel_rfl) rfl) rfl (Nat.le_of_ble_eq_true rfl) rfl .no (fun d=>by kernel_rfl)
theorem tY:FOk Tryz.prog 239 nI:=fok (V:=⟨tt,[],[],61,[]⟩) ak trivial mixed Tryz.func239 rfl rfl (enters_of Tryz.func239 (by kernel_rfl) rfl) rfl (Nat.le_of_ble_eq_true rfl) rfl (.two .no (.two .no (.join [.slot 7 (.num .i64)] .no (.two (.two .no (.loop [.slot 7 (.num .i64),.slot 21 (.num .i64)] (.two .no (.two .no (.join [.slot 7 (.num .i64)] .no .no))))) (.two .no (.two (.two .no (.loop [.slot 10 (.num .i64),.slot 39 (.num .i64)] (.two .no (.two .no (.join [.slot 10 (.num .i64)] .no .no))))) .no)))))) (fun d=>by kernel_rfl)
theorem wK:FOk Tryz.prog 238 pc:=fok (V:=⟨tt,[(239,nI)],[],15,[]⟩) ak ⟨tY,trivial⟩ mixed Tryz.func238 rfl rfl (enters_of Tryz.func238 (by kernel_rfl) rfl) rfl (Nat.le_of_ble_eq_true rfl) rfl .no (fun d=>by kernel_rfl)
theorem Ap:FOk Tryz.prog 208 rI:=fok (V:=⟨tt,[(236,mq),(237,l8),(238,pc)],[],13,[]⟩) ak ⟨qI,rO,wK,trivial⟩ mixed Tryz.func208 rfl rfl (enters_of Tryz.func208 (by kernel_rfl) rfl) rfl (Nat.le_of_ble_eq_true rfl) rfl .no (fun d=>by kernel_rfl)
theorem mU:FOk Tryz.prog 309 bd:=Fz (f:=bd) (jN (f:=⟨bd.ps,bd.rs,bd.m,none⟩) (enters_of Tryz.func309 (by kernel_rfl) rfl) rfl (fun d=>rfl)) (Jy (V:=⟨tt,[],[(5,.raw)],8,[]⟩) ak trivial mixed Tryz.func309 rfl rfl (enters_of Tryz.func309 (by kernel_rfl) rfl) (Nat.le_of_ble_eq_true rfl) .no (fun E bn xs=>by cases bn <;> kernel_rfl))
theorem vy:FOk Tryz.prog 300 oB:=fok (V:=⟨tt,[(309,bd)],[],48,[]⟩) ak ⟨mU,trivial⟩ mixed Tryz.func300 rfl rfl (enters_of Tryz.func300 (by kernel_rfl) rfl) rfl (Nat.le_of_ble_eq_true rfl) rfl (.two .no (.two .no (.two (.two .no (.loop [.slot 4 .boo,.row 3 4 y4] (.two .no (.two .no (.two .no (.loop [.slot 4 .boo,.slot 16 (.num .i64),.row 3 4 y4] (.two .no (.two .no (.two (.two .no (.two .no (.loop [.slot 4 .boo,.slot 23 (.num .i64),.row 3 4 y4] (.two .no (.two .no (.two (.at [.slot 4 .boo,.row 3 4 y4] .no) .no)))))) .no))))))))) .no))) (fun d=>by kernel_rfl)
theorem jE:FOk Tryz.prog 310 dG:=fok (V:=⟨tt,[],[],19,[]⟩) ak trivial mixed Tryz.func310 rfl rfl (enters_of Tryz.func310 (by kernel_rfl) rfl) rfl (Nat.le_of_ble_eq_true rfl) rfl (.two .no (.two (.two .no (.loop [.slot 8 (.num .i64)] .no)) .no)) (fun d=>by kernel_rfl)
theorem qM:FOk Tryz.prog 311 kG:=fok (V:=⟨tt,[(152,cy)],[],7,[]⟩) ak ⟨dI,trivial⟩ mixed Tryz.func311 rfl rfl (enters_of Tryz.func311 (by kernel_rfl) rfl) rfl (Nat.le_of_ble_eq_true rfl) rfl .no (fun d=>by kernel_rfl)
theorem sQ:FOk Tryz.prog 301 mB:=fok (V:=⟨tt,[(310,dG),(311,kG)],[],70,[]⟩) ak ⟨jE,qM,trivial⟩ mixed Tryz.func301 rfl rfl (enters_of Tryz.func301 (by kernel_rfl) rfl) rfl (Nat.le_of_ble_eq_true rfl) rfl (.two .no (.two .no (.two .no (.two (.two .no (.loop [.slot 6 (.own 26 y26),.slot 7 (.own 3 y3),.slot 18 (.num .i64)] (.two .no (.two .no (.join [.slot 6 (.own 26 y26),.slot 7 (.own 3 y3)] (.two .no (.two .no (.two .no (.two (.two .no (.loop [.slot 36 (.num .i64),.box 10 [(.own 3 y3)]] (.two .no (.two .no (.two (.two .no (.join [.slot 12 (.num .i64)] .no .no)) .no))))) (.two .no (.join [.slot 6 (.own 26 y26),.slot 13 (.num .i64),.gone 10] .no .no)))))) .no))))) .no)))) (fun d=>by kernel_rfl)
theorem rP:FOk Tryz.prog 271 l9:=fok (V:=⟨tt,[(300,oB),(301,mB)],[],49,[]⟩) ak ⟨vy,sQ,trivial⟩ mixed Tryz.func271 rfl rfl (enters_of Tryz.func271 (by kernel_rfl) rfl) rfl (Nat.le_of_ble_eq_true rfl) rfl (.two .no (.two .no (.two (.two .no (.loop [.slot 3 (.own 3 y3),.slot 13 (.num .i64)] (.two .no (.two .no (.join [.slot 3 (.own 3 y3)] .no .no))))) (.two .no (.loop [.slot 3 (.own 3 y3),.slot 6 (.num .i64)] .no))))) (fun d=>by kernel_rfl)
end R
namespace R
open Go.RowKit
open D
theorem tZ:FOk Tryz.prog 277 nJ:=fok (V:=⟨tt,[],[],17,[]⟩) ak trivial mixed Tryz.func277 rfl rfl (enters_of Tryz.func277 (by kernel_rfl) rfl) rfl (Nat.le_of_ble_eq_true rfl) rfl .no (fun d=>by kernel_rfl)
theorem ua:FOk Tryz.prog 278 nK:=fok (V:=⟨tt,[],[],51,[]⟩) ak trivial mixed Tryz.func278 rfl rfl (enters_of Tryz.func278 (by kernel_rfl) rfl) rfl (Nat.le_of_ble_eq_true rfl) rfl .no (fun d=>by kernel_rfl)
theorem wL:FOk Tryz.prog 242 pd:=fok (V:=⟨tt,[(277,nJ),(278,nK)],[],30,[]⟩) ak ⟨tZ,ua,trivial⟩ mixed Tryz.func242 rfl rfl (enters_of Tryz.func242 (by kernel_rfl) rfl) rfl (Nat.le_of_ble_eq_true rfl) rfl .no (fun d=>by kernel_rfl)
theorem gJ:FOk Tryz.prog 214 dy:=fok (V:=⟨tt,[(242,pd)],[(44,.bool)],48,[]⟩) ak ⟨wL,trivial⟩ mixed Tryz.func214 rfl rfl (enters_of Tryz.func214 (by kernel_rfl) rfl) rfl (Nat.le_of_ble_eq_true rfl) rfl (.two .no (.two .no (.two .no (.two .no (.two .no (.two .no (.two (.loop [.slot 8 (.num .i64),.row 7 3 (.int .i64)] .no) .no))))))) (fun d=>by kernel_rfl)
theorem H0:FOk Tryz.prog 272 zT:=fok (V:=⟨tt,[(214,dy)],[],6,[]⟩) ak ⟨gJ,trivial⟩ mixed Tryz.func272 rfl rfl (enters_of Tryz.func272 (by kernel_rfl) rfl) rfl (Nat.le_of_ble_eq_true rfl) rfl .no (fun d=>by kernel_rfl)
theorem nZ:FOk Tryz.prog 274 ij:=fok (V:=⟨tt,[],[],19,[]⟩) ak trivial mixed Tryz.func274 rfl rfl (enters_of Tryz.func274 (by kernel_rfl) rfl) rfl (Nat.le_of_ble_eq_true rfl) rfl (.two .no (.two (.two .no (.loop [.slot 8 (.num .i64)] .no)) .no)) (fun d=>by kernel_rfl)
theorem pj:FOk Tryz.prog 273 jw:=fok (V:=⟨tt,[(274,ij)],[],7,[]⟩) ak ⟨nZ,trivial⟩ mixed Tryz.func273 rfl rfl (enters_of Tryz.func273 (by kernel_rfl) rfl) rfl (Nat.le_of_ble_eq_true rfl) rfl .no (fun d=>by kernel_rfl)
theorem pn:FOk Tryz.prog 275 jx:=fok (V:=⟨tt,[],[],12,[]⟩) ak trivial mixed Tryz.func275 rfl rfl (enters_of Tryz.func275 (by kernel_rfl) rfl) rfl (Nat.le_of_ble_eq_true rfl) rfl .no (fun d=>by kernel_rfl)
theorem km:FOk Tryz.prog 217 fV:=fok (V:=⟨tt,[(244,rG)],[],22,[]⟩) ak ⟨xz,trivial⟩ mixed Tryz.func217 rfl rfl (enters_of Tryz.func217 (by kernel_rfl) rfl) rfl (Nat.le_of_ble_eq_true rfl) rfl .no (fun d=>by kernel_rfl)
theorem po:FOk Tryz.prog 276 jy:=fok (V:=⟨tt,[(217,fV)],[],29,[]⟩) ak ⟨km,trivial⟩ mixed Tryz.func276 rfl rfl (enters_of Tryz.func276 (by kernel_rfl) rfl) rfl (Nat.le_of_ble_eq_true rfl) rfl .no (fun d=>by kernel_rfl)
theorem qN:FOk Tryz.prog 240 kH:=fok (V:=⟨tt,[(236,mq),(271,l9),(272,zT),(273,jw),(275,jx),(276,jy)],[],31,[]⟩) ak ⟨qI,rP,H0,pj,pn,po,trivial⟩ mixed Tryz.func240 rfl rfl (enters_of Tryz.func240 (by kernel_rfl) rfl) rfl (Nat.le_of_ble_eq_true rfl) rfl .no (fun d=>by kernel_rfl)
theorem NX:FOk Tryz.prog 209 FF:=fok (V:=⟨tt,[(240,kH)],[],13,[]⟩) ak ⟨qN,trivial⟩ mixed Tryz.func209 rfl rfl (enters_of Tryz.func209 (by kernel_rfl) rfl) rfl (Nat.le_of_ble_eq_true rfl) rfl .no (fun d=>by kernel_rfl)
theorem Aq:FOk Tryz.prog 175 rJ:=fok (V:=⟨tt,[(207,oA),(208,rI),(209,FF)],[],28,[]⟩) ak ⟨vx,Ap,NX,trivial⟩ mixed Tryz.func175 rfl rfl (enters_of Tryz.func175 (by kernel_rfl) rfl) rfl (Nat.le_of_ble_eq_true rfl) rfl .no (fun d=>by kernel_rfl)
theorem fL:FOk Tryz.prog 176 cx:=fok (V:=⟨tt,[],[],19,[]⟩) ak trivial mixed Tryz.func176 rfl rfl (enters_of Tryz.func176 (by kernel_rfl) rfl) rfl (Nat.le_of_ble_eq_true rfl) rfl (.two .no (.two (.two .no (.loop [.slot 8 (.num .i64)] .no)) .no)) (fun d=>by kernel_rfl)
theorem mV:FOk Tryz.prog 210 fW:=fok (V:=⟨tt,[],[],26,[]⟩) ak trivial mixed Tryz.func210 rfl rfl (enters_of Tryz.func210 (by kernel_rfl) rfl) rfl (Nat.le_of_ble_eq_true rfl) rfl (.two .no (.two .no (.two (.two .no (.loop [.slot 13 (.num .i64)] .no)) .no))) (fun d=>by kernel_rfl)
theorem eb:FOk Tryz.prog 211 bV:=fok (V:=⟨tt,[],[],32,[]⟩) ak trivial mixed Tryz.func211 rfl rfl (enters_of Tryz.func211 (by kernel_rfl) rfl) rfl (Nat.le_of_ble_eq_true rfl) rfl (.two .no (.two .no (.two (.two .no (.loop [.slot 17 (.num .i64)] .no)) .no))) (fun d=>by kernel_rfl)
theorem ub:FOk Tryz.prog 212 nL:=fok (V:=⟨tt,[(152,cy)],[],8,[]⟩) ak ⟨dI,trivial⟩ mixed Tryz.func212 rfl rfl (enters_of Tryz.func212 (by kernel_rfl) rfl) rfl (Nat.le_of_ble_eq_true rfl) rfl .no (fun d=>by kernel_rfl)
end R
namespace R
open Go.RowKit
open D
theorem pq:FOk Tryz.prog 178 kW:=fok (V:=⟨tt,[(210,fW),(211,bV),(212,nL)],[],24,[]⟩) ak ⟨mV,eb,ub,trivial⟩ mixed Tryz.func178 rfl rfl (enters_of Tryz.func178 (by kernel_rfl) rfl) rfl (Nat.le_of_ble_eq_true rfl) rfl .no (fun d=>by kernel_rfl)
theorem FW:FOk Tryz.prog 177 xt:=fok (V:=⟨tt,[(178,kW)],[],7,[]⟩) ak ⟨pq,trivial⟩ mixed Tryz.func177 rfl rfl (enters_of Tryz.func177 (by kernel_rfl) rfl) rfl (Nat.le_of_ble_eq_true rfl) rfl .no (fun d=>by kernel_rfl)
theorem FX:FOk Tryz.prog 179 xu:=fok (V:=⟨tt,[],[],8,[]⟩) ak trivial mixed Tryz.func179 rfl rfl (enters_of Tryz.func179 (by kernel_rfl) rfl) rfl (Nat.le_of_ble_eq_true rfl) rfl .no (fun d=>by kernel_rfl)
theorem Le:FOk Tryz.prog 140 Ck:=fok (V:=⟨tt,[(102,fN),(175,rJ),(176,cx),(177,xt),(179,xu)],[],80,[]⟩) ak ⟨hZ,Aq,fL,FW,FX,trivial⟩ mixed Tryz.func140 rfl rfl (enters_of Tryz.func140 (by kernel_rfl) rfl) rfl (Nat.le_of_ble_eq_true rfl) rfl (.two .no (.two .no (.two (.two .no (.loop [.slot 13 (.num .i64),.box 4 [(.own 92 y92),(.own 146 FC)]] (.two .no (.two .no (.two (.two .no (.two .no (.two .no (.two .no (.join [.slot 9 (.num .i64),.box 4 [(.own 92 y92),(.own 146 FC)],.gone 7] .no .no))))) .no))))) .no))) (fun d=>by kernel_rfl)
theorem cm:FOk Tryz.prog 180 aW:=fok (V:=⟨tt,[],[],32,[]⟩) ak trivial mixed Tryz.func180 rfl rfl (enters_of Tryz.func180 (by kernel_rfl) rfl) rfl (Nat.le_of_ble_eq_true rfl) rfl (.two .no (.two .no (.two (.two .no (.loop [.slot 17 (.num .i64)] .no)) .no))) (fun d=>by kernel_rfl)
theorem bY:FOk Tryz.prog 181 aT:=fok (V:=⟨tt,[],[],32,[]⟩) ak trivial mixed Tryz.func181 rfl rfl (enters_of Tryz.func181 (by kernel_rfl) rfl) rfl (Nat.le_of_ble_eq_true rfl) rfl (.two .no (.two .no (.two (.two .no (.loop [.slot 17 (.num .i64)] .no)) .no))) (fun d=>by kernel_rfl)
theorem ma:FOk Tryz.prog 241 fj:=fok (V:=⟨tt,[],[],26,[]⟩) ak trivial mixed Tryz.func241 rfl rfl (enters_of Tryz.func241 (by kernel_rfl) rfl) rfl (Nat.le_of_ble_eq_true rfl) rfl (.two .no (.two .no (.two (.two .no (.loop [.slot 13 (.num .i64)] .no)) .no))) (fun d=>by kernel_rfl)
theorem Bn:FOk Tryz.prog 213 tm:=fok (V:=⟨tt,[(241,fj)],[],10,[]⟩) ak ⟨ma,trivial⟩ mixed Tryz.func213 rfl rfl (enters_of Tryz.func213 (by kernel_rfl) rfl) rfl (Nat.le_of_ble_eq_true rfl) rfl .no (fun d=>by kernel_rfl)
theorem xR:FOk Tryz.prog 182 qB:=fok (V:=⟨tt,[(213,tm)],[],24,[]⟩) ak ⟨Bn,trivial⟩ mixed Tryz.func182 rfl rfl (enters_of Tryz.func182 (by kernel_rfl) rfl) rfl (Nat.le_of_ble_eq_true rfl) rfl .no (fun d=>by kernel_rfl)
theorem uc:FOk Tryz.prog 141 nM:=fok (V:=⟨tt,[(178,kW),(180,aW),(181,aT),(182,qB)],[],17,[]⟩) ak ⟨pq,cm,bY,xR,trivial⟩ mixed Tryz.func141 rfl rfl (enters_of Tryz.func141 (by kernel_rfl) rfl) rfl (Nat.le_of_ble_eq_true rfl) rfl .no (fun d=>by kernel_rfl)
theorem nR:FOk Tryz.prog 100 ji:=fok (V:=⟨tt,[(140,Ck),(141,nM)],[],17,[]⟩) ak ⟨Le,uc,trivial⟩ mixed Tryz.func100 rfl rfl (enters_of Tryz.func100 (by kernel_rfl) rfl) rfl (Nat.le_of_ble_eq_true rfl) rfl .no (fun d=>by kernel_rfl)
theorem H1:FOk Tryz.prog 70 zU:=fok (V:=⟨tt,[(78,hY),(99,qc),(100,ji),(114,fU)],[],32,[]⟩) ak ⟨kY,vv,nR,kl,trivial⟩ mixed Tryz.func70 rfl rfl (enters_of Tryz.func70 (by kernel_rfl) rfl) rfl (Nat.le_of_ble_eq_true rfl) rfl .no (fun d=>by kernel_rfl)
theorem rQ:FOk Tryz.prog 142 oC:=fok (V:=⟨tt,[],[],6,[]⟩) ak trivial mixed Tryz.func142 rfl rfl (enters_of Tryz.func142 (by kernel_rfl) rfl) rfl (Nat.le_of_ble_eq_true rfl) rfl .no (fun d=>by kernel_rfl)
theorem wM:FOk Tryz.prog 101 pe:=fok (V:=⟨tt,[(142,oC)],[],29,[]⟩) ak ⟨rQ,trivial⟩ mixed Tryz.func101 rfl rfl (enters_of Tryz.func101 (by kernel_rfl) rfl) rfl (Nat.le_of_ble_eq_true rfl) rfl (.two .no (.two .no (.two (.two .no (.loop [.slot 16 (.num .i64),.box 3 [(.num .i64),(.own 4 y4),(.own 26 y26)]] .no)) .no))) (fun d=>by kernel_rfl)
theorem vz:FOk Tryz.prog 54 oD:=fok (V:=⟨tt,[(99,qc),(100,ji),(101,pe)],[],29,[]⟩) ak ⟨vv,nR,wM,trivial⟩ mixed Tryz.func54 rfl rfl (enters_of Tryz.func54 (by kernel_rfl) rfl) rfl (Nat.le_of_ble_eq_true rfl) rfl .no (fun d=>by kernel_rfl)
theorem sR:FOk Tryz.prog 143 mC:=fok (V:=⟨tt,[(102,fN)],[],52,[]⟩) ak ⟨hZ,trivial⟩ mixed Tryz.func143 rfl rfl (enters_of Tryz.func143 (by kernel_rfl) rfl) rfl (Nat.le_of_ble_eq_true rfl) rfl (.two .no (.two .no (.two .no (.two (.two .no (.loop [.slot 32 (.num .i64)] (.two .no (.two .no (.two (.two .no (.two (.two .no (.loop [.slot 38 (.num .i64)] .no)) .no)) .no))))) .no)))) (fun d=>by kernel_rfl)
theorem Cr:FOk Tryz.prog 104 wE:=fok (V:=⟨tt,[(55,iY),(102,fN),(143,mC)],[],29,[]⟩) ak ⟨mu,hZ,sR,trivial⟩ mixed Tryz.func104 rfl rfl (enters_of Tryz.func104 (by kernel_rfl) rfl) rfl (Nat.le_of_ble_eq_true rfl) rfl (.two .no (.two (.two .no (.loop [.slot 11 (.num .i64)] .no)) .no)) (fun d=>by kernel_rfl)
end R
namespace R
open Go.RowKit
open D
theorem Lf:FOk Tryz.prog 183 Cl:=fok (V:=⟨tt,[(214,dy)],[(34,.bool)],67,[]⟩) ak ⟨gJ,trivial⟩ mixed Tryz.func183 rfl rfl (enters_of Tryz.func183 (by kernel_rfl) rfl) rfl (Nat.le_of_ble_eq_true rfl) rfl (.two .no (.two .no (.two .no (.two (.two .no (.loop [.slot 6 (.own 3 (.int .i64)),.slot 18 (.num .i64),.row 5 3 y3] .no)) (.two (.loop [.slot 6 (.own 3 (.int .i64)),.row 5 3 y3] (.two .no (.two (.two .no (.loop [.slot 6 (.own 3 y3),.slot 42 (.num .i64),.row 5 3 y3] (.two .no (.two .no (.two (.at [.slot 6 (.own 3 y3),.row 5 3 y3] .no) .no))))) .no))) .no))))) (fun d=>by kernel_rfl)
theorem ud:FOk Tryz.prog 185 qd:=fok (V:=⟨tt,[],[],22,[]⟩) ak trivial mixed Tryz.func185 rfl rfl (enters_of Tryz.func185 (by kernel_rfl) rfl) rfl (Nat.le_of_ble_eq_true rfl) rfl (.two .no (.two .no (.two (.two .no (.loop [.slot 3 (.own 3 y3),.slot 4 (.num .i64)] (.two .no (.join [.slot 3 (.own 3 y3)] .no .no)))) .no))) (fun d=>by kernel_rfl)
theorem NY:FOk Tryz.prog 243 FG:=fok (V:=⟨tt,[],[],13,[]⟩) ak trivial mixed Tryz.func243 rfl rfl (enters_of Tryz.func243 (by kernel_rfl) rfl) rfl (Nat.le_of_ble_eq_true rfl) rfl .no (fun d=>by kernel_rfl)
theorem Rc:FOk Tryz.prog 215 JC:=fok (V:=⟨tt,[(243,FG)],[],57,[]⟩) ak ⟨NY,trivial⟩ mixed Tryz.func215 rfl rfl (enters_of Tryz.func215 (by kernel_rfl) rfl) rfl (Nat.le_of_ble_eq_true rfl) rfl (.two .no (.two .no (.two (.two .no (.loop [.slot 13 (.num .i64),.row 3 238 Ya] .no)) .no))) (fun d=>by kernel_rfl)
theorem Ar:FOk Tryz.prog 186 tU:=fok (V:=⟨tt,[(217,fV)],[],29,[]⟩) ak ⟨km,trivial⟩ mixed Tryz.func186 rfl rfl (enters_of Tryz.func186 (by kernel_rfl) rfl) rfl (Nat.le_of_ble_eq_true rfl) rfl (.two .no (.two .no (.two (.two .no (.loop [.slot 7 (.num .i64),.slot 8 (.num .i64)] .no)) .no))) (fun d=>by kernel_rfl)
theorem NZ:FOk Tryz.prog 216 FH:=fok (V:=⟨tt,[(185,qd),(186,tU),(217,fV)],[],45,[]⟩) ak ⟨ud,Ar,km,trivial⟩ mixed Tryz.func216 rfl rfl (enters_of Tryz.func216 (by kernel_rfl) rfl) rfl (Nat.le_of_ble_eq_true rfl) rfl (.two .no (.two .no (.two (.two .no (.loop [.slot 9 (.num .i64),.slot 18 (.num .i64)] (.two .no (.two .no (.two (.two .no (.two .no (.loop [.slot 9 (.num .i64),.slot 28 (.num .i64)] (.two .no (.two .no (.join [.slot 9 (.num .i64)] .no .no)))))) .no))))) .no))) (fun d=>by kernel_rfl)
theorem xS:FOk Tryz.prog 184 qC:=fok (V:=⟨tt,[(185,qd),(215,JC),(216,FH)],[],86,[]⟩) ak ⟨ud,Rc,NZ,trivial⟩ mixed Tryz.func184 rfl rfl (enters_of Tryz.func184 (by kernel_rfl) rfl) rfl (Nat.le_of_ble_eq_true rfl) rfl (.two .no (.two .no (.two .no (.two (.two .no (.loop [.slot 26 (.num .i64),.row 6 26 y26] (.two .no (.two .no (.two (.two .no (.two .no (.loop [.slot 9 (.num .i64),.row 6 26 y26] (.two .no (.two (.two .no (.loop [.slot 38 (.num .i64),.row 6 26 y26] (.two .no (.two .no (.two (.two .no (.two .no (.loop [.slot 55 (.num .i64),.row 6 26 y26] .no))) .no))))) .no))))) .no))))) .no)))) (fun d=>by kernel_rfl)
theorem wN:FOk Tryz.prog 144 pf:=Zn (V:=⟨tt,[(104,wE),(183,Cl),(184,qC)],[(1000000,.raw)],26,[]⟩) ak ⟨Cr,Lf,xS,trivial⟩ mixed Tryz.func144 rfl rfl (enters_of Tryz.func144 (by kernel_rfl) rfl) ⟨rfl,rfl⟩ (Nat.le_of_ble_eq_true rfl) rfl .no (fun d=>by kernel_rfl)
theorem Dz:FOk Tryz.prog 145 vl:=fok (V:=⟨tt,[(185,qd),(186,tU)],[],35,[]⟩) ak ⟨ud,Ar,trivial⟩ mixed Tryz.func145 rfl rfl (enters_of Tryz.func145 (by kernel_rfl) rfl) rfl (Nat.le_of_ble_eq_true rfl) rfl (.two .no (.two (.two .no (.loop [.slot 14 (.num .i64)] (.two .no (.two .no (.two (.two .no (.two .no (.loop [.slot 24 (.num .i64)] .no))) .no))))) .no)) (fun d=>by kernel_rfl)
theorem oO:FOk Tryz.prog 187 iG:=NU Hx (enters_of Tryz.func187 (by kernel_rfl) rfl) 3
theorem mW:FOk Tryz.prog 188 fX:=fok (V:=⟨tt,[],[(28,.raw),(56,.raw),(59,.raw)],61,[]⟩) ak trivial mixed Tryz.func188 rfl rfl (enters_of Tryz.func188 (by kernel_rfl) rfl) rfl (Nat.le_of_ble_eq_true rfl) rfl (.two .no (.two .no (.two (.two .no (.loop [.slot 3 (.num .i64)] (.two .no (.two (.two .no (.two (.two .no (.two (.two .no (.loop [.slot 3 (.num .i64),.slot 5 (.num .i64),.row 0 3 y3] (.two .no (.two (.at [.slot 3 (.num .i64),.row 0 3 y3] .no) .no)))) .no)) .no)) .no)))) .no))) (fun d=>by kernel_rfl)
theorem DA:FOk Tryz.prog 146 vm:=fok (V:=⟨tt,[(142,oC),(187,iG),(188,fX)],[],10,[]⟩) ak ⟨rQ,oO,mW,trivial⟩ mixed Tryz.func146 rfl rfl (enters_of Tryz.func146 (by kernel_rfl) rfl) rfl (Nat.le_of_ble_eq_true rfl) rfl .no (fun d=>by kernel_rfl)
theorem As:FOk Tryz.prog 105 rK:=fok (V:=⟨tt,[(144,pf),(145,vl),(146,vm)],[],51,[]⟩) ak ⟨wN,Dz,DA,trivial⟩ mixed Tryz.func105 rfl rfl (enters_of Tryz.func105 (by kernel_rfl) rfl) rfl (Nat.le_of_ble_eq_true rfl) rfl (.two .no (.two .no (.two .no (.two (.two .no (.loop [.slot 7 (.own 3 y3),.slot 20 (.num .i64)] (.two .no (.two .no (.two (.at [.slot 7 (.own 3 y3)] .no) .no))))) .no)))) (fun d=>by kernel_rfl)
theorem Bo:FOk Tryz.prog 56 tn:=fok (V:=⟨tt,[(104,wE),(105,rK)],[],38,[]⟩) ak ⟨Cr,As,trivial⟩ mixed Tryz.func56 rfl rfl (enters_of Tryz.func56 (by kernel_rfl) rfl) rfl (Nat.le_of_ble_eq_true rfl) rfl (.two .no (.two .no (.two .no (.two (.two .no (.loop [.slot 5 (.own 103 sH),.slot 17 (.num .i64)] (.two .no (.two .no (.two (.two .no (.two .no (.loop [.slot 5 (.own 103 sH),.slot 25 (.num .i64)] .no))) .no))))) .no)))) (fun d=>by kernel_rfl)
theorem xT:FOk Tryz.prog 13 qD:=fok (V:=⟨tt,[(54,oD),(55,iY),(56,tn)],[],26,[]⟩) ak ⟨vz,mu,Bo,trivial⟩ mixed Tryz.func13 rfl rfl (enters_of Tryz.func13 (by kernel_rfl) rfl) rfl (Nat.le_of_ble_eq_true rfl) rfl .no (fun d=>by kernel_rfl)
theorem DB:FOk Tryz.prog 160 vn:=fok (V:=⟨tt,[(142,oC)],[],11,[]⟩) ak ⟨rQ,trivial⟩ mixed Tryz.func160 rfl rfl (enters_of Tryz.func160 (by kernel_rfl) rfl) rfl (Nat.le_of_ble_eq_true rfl) rfl .no (fun d=>by kernel_rfl)
theorem H2:FOk Tryz.prog 121 zV:=fok (V:=⟨tt,[(78,hY),(102,fN),(114,fU),(160,vn)],[],28,[]⟩) ak ⟨kY,hZ,kl,DB,trivial⟩ mixed Tryz.func121 rfl rfl (enters_of Tryz.func121 (by kernel_rfl) rfl) rfl (Nat.le_of_ble_eq_true rfl) rfl .no (fun d=>by kernel_rfl)
end R
namespace R
open Go.RowKit
open D
theorem DC:FOk Tryz.prog 84 vo:=fok (V:=⟨tt,[(13,qD),(121,zV)],[],26,[]⟩) ak ⟨xT,H2,trivial⟩ mixed Tryz.func84 rfl rfl (enters_of Tryz.func84 (by kernel_rfl) rfl) rfl (Nat.le_of_ble_eq_true rfl) rfl .no (fun d=>by kernel_rfl)
theorem kC:FOk Tryz.prog 221 eD:=fok (V:=⟨tt,[],[],19,[]⟩) ak trivial mixed Tryz.func221 rfl rfl (enters_of Tryz.func221 (by kernel_rfl) rfl) rfl (Nat.le_of_ble_eq_true rfl) rfl (.two .no (.two (.two .no (.loop [.slot 8 (.num .i64)] .no)) .no)) (fun d=>by kernel_rfl)
theorem ko:FOk Tryz.prog 191 dZ:=fok (V:=⟨tt,[(221,eD)],[(38,.raw),(41,.raw)],42,[]⟩) ak ⟨kC,trivial⟩ mixed Tryz.func191 rfl rfl (enters_of Tryz.func191 (by kernel_rfl) rfl) rfl (Nat.le_of_ble_eq_true rfl) rfl (.two .no (.two .no (.two .no (.two (.two .no (.loop [.slot 5 (.num .i64),.slot 6 (.num .i64),.row 0 103 sH] (.two .no (.two (.at [.slot 5 (.num .i64),.row 0 103 sH] .no) .no)))) .no)))) (fun d=>by kernel_rfl)
theorem Au:FOk Tryz.prog 198 rL:=fok (V:=⟨tt,[],[],13,[]⟩) ak trivial mixed Tryz.func198 rfl rfl (enters_of Tryz.func198 (by kernel_rfl) rfl) rfl (Nat.le_of_ble_eq_true rfl) rfl .no (fun d=>by kernel_rfl)
theorem xU:FOk Tryz.prog 164 qF:=fok (V:=⟨tt,[(198,rL)],[],20,[]⟩) ak ⟨Au,trivial⟩ mixed Tryz.func164 rfl rfl (enters_of Tryz.func164 (by kernel_rfl) rfl) rfl (Nat.le_of_ble_eq_true rfl) rfl .no (fun d=>by kernel_rfl)
theorem kD (a b:Int) (W:World):Calls Tryz.prog 198 #[.int .i64 a,.int .i64 b] W fun e w'=>e= .returned (.int .i64 (cmpI a b))∧w'=W:=by
 unfold cmpI
 by_cases h:a<b
 ·go_enter Tryz.func198,Tryz.ntmps198
  go_wp2
  go_ret
  simp[h]
 ·by_cases k:b<a
  ·go_enter Tryz.func198,Tryz.ntmps198
   go_wp2
   go_ret
   simp[h,k]
  ·go_enter Tryz.func198,Tryz.ntmps198
   go_wp2
   go_ret
   simp[h,k]
theorem kE (x y:Int×Int) (W:World):Calls Tryz.prog 164 #[.agg #[.int .i64 x.1,.int .i64 x.2],.agg #[.int .i64 y.1,.int .i64 y.2]] W fun e w'=>e= .returned (.int .i64 (KT x y))∧ ∃q os',w'=Go.Sort.grow (W.drewN q) os':=by
 unfold KT
 have hcon:=kD
 generalize cmpI=cf at hcon⊢
 by_cases h:x.1=y.1
 ·rw[if_pos h]
  go_enter Tryz.func164,Tryz.ntmps164
  go_wp2_with (go_at_call 198;refine (hcon _ _ _).mono ?_;rintro e w' ⟨rfl,rfl⟩)
  go_ret
  exact ⟨rfl,0,_,by rw[Go.Sort.alloc_eq_grow,Go.Sort.alloc_eq_grow,Go.Sort.grow_grow];rfl⟩
 ·rw[if_neg h]
  go_enter Tryz.func164,Tryz.ntmps164
  go_wp2_with (go_at_call 198;refine (hcon _ _ _).mono ?_;rintro e w' ⟨rfl,rfl⟩)
  go_ret
  exact ⟨rfl,0,_,by rw[Go.Sort.alloc_eq_grow,Go.Sort.alloc_eq_grow,Go.Sort.grow_grow];rfl⟩
theorem kZ:FOk Tryz.prog 222 fc:=NR A7 (by intro w;kernel_rfl) (by intro w;kernel_rfl) Q8 Q9 (enters_of Tryz.func164 (by kernel_rfl) rfl) (fun _ _ _ _ _ _ _ _ x y=>kE x y _) (enters_of Tryz.func222 (by kernel_rfl) rfl) 103
theorem mb:FOk Tryz.prog 223 fl:=fok (V:=⟨tt,[],[(28,.raw),(56,.raw),(59,.raw)],61,[]⟩) ak trivial mixed Tryz.func223 rfl rfl (enters_of Tryz.func223 (by kernel_rfl) rfl) rfl (Nat.le_of_ble_eq_true rfl) rfl (.two .no (.two .no (.two (.two .no (.loop [.slot 3 (.num .i64)] (.two .no (.two (.two .no (.two (.two .no (.two (.two .no (.loop [.slot 3 (.num .i64),.slot 5 (.num .i64),.row 0 103 sH] (.two .no (.two (.at [.slot 3 (.num .i64),.row 0 103 sH] .no) .no)))) .no)) .no)) .no)))) .no))) (fun d=>by kernel_rfl)
theorem H3:FOk Tryz.prog 192 zW:=fok (V:=⟨tt,[(164,qF),(222,fc),(223,fl)],[],11,[]⟩) ak ⟨xU,kZ,mb,trivial⟩ mixed Tryz.func192 rfl rfl (enters_of Tryz.func192 (by kernel_rfl) rfl) rfl (Nat.le_of_ble_eq_true rfl) rfl .no (fun d=>by kernel_rfl)
theorem mX:FOk Tryz.prog 224 fY:=fok (V:=⟨tt,[],[],19,[]⟩) ak trivial mixed Tryz.func224 rfl rfl (enters_of Tryz.func224 (by kernel_rfl) rfl) rfl (Nat.le_of_ble_eq_true rfl) rfl (.two .no (.two (.two .no (.loop [.slot 8 (.num .i64)] .no)) .no)) (fun d=>by kernel_rfl)
theorem k7:FOk Tryz.prog 194 fe:=fok (V:=⟨tt,[(224,fY)],[],9,[]⟩) ak ⟨mX,trivial⟩ mixed Tryz.func194 rfl rfl (enters_of Tryz.func194 (by kernel_rfl) rfl) rfl (Nat.le_of_ble_eq_true rfl) rfl .no (fun d=>by kernel_rfl)
theorem ue:FOk Tryz.prog 193 nO:=fok (V:=⟨tt,[(194,fe)],[],7,[]⟩) ak ⟨k7,trivial⟩ mixed Tryz.func193 rfl rfl (enters_of Tryz.func193 (by kernel_rfl) rfl) rfl (Nat.le_of_ble_eq_true rfl) rfl .no (fun d=>by kernel_rfl)
theorem wO:FOk Tryz.prog 153 pg:=fok (V:=⟨tt,[(191,dZ),(192,zW),(193,nO)],[],9,[]⟩) ak ⟨ko,H3,ue,trivial⟩ mixed Tryz.func153 rfl rfl (enters_of Tryz.func153 (by kernel_rfl) rfl) rfl (Nat.le_of_ble_eq_true rfl) rfl .no (fun d=>by kernel_rfl)
theorem xV:FOk Tryz.prog 115 qG:=fok (V:=⟨tt,[(153,pg)],[],12,[]⟩) ak ⟨wO,trivial⟩ mixed Tryz.func115 rfl rfl (enters_of Tryz.func115 (by kernel_rfl) rfl) rfl (Nat.le_of_ble_eq_true rfl) rfl .no (fun d=>by kernel_rfl)
theorem H4:FOk Tryz.prog 71 zX:=fok (V:=⟨tt,[(84,vo),(115,qG)],[],54,[]⟩) ak ⟨DC,xV,trivial⟩ mixed Tryz.func71 rfl rfl (enters_of Tryz.func71 (by kernel_rfl) rfl) rfl (Nat.le_of_ble_eq_true rfl) rfl (.two .no (.two .no (.two .no (.two (.two .no (.at [.box 13 [(.num .i64),.boo,(.own 103 sH),(.own 103 sH)],.gone 11] .no)) .no)))) (fun d=>by kernel_rfl)
theorem Av:FOk Tryz.prog 33 rM:=fok (V:=⟨tt,[(70,zU),(71,zX),(78,hY)],[],25,[]⟩) ak ⟨H1,H4,kY,trivial⟩ mixed Tryz.func33 rfl rfl (enters_of Tryz.func33 (by kernel_rfl) rfl) rfl (Nat.le_of_ble_eq_true rfl) rfl .no (fun d=>by kernel_rfl)
theorem qO:FOk Tryz.prog 5 qL:=fok (V:=⟨tt,[(8,sU),(11,sV),(15,sW),(17,qw),(21,uU),(23,uV),(24,qx),(26,uW),(27,qy),(28,uX),(29,ry),(30,rz),(31,rA),(32,rE),(33,rM)],[],151,[]⟩) ak ⟨A8,A9,Ba,xM,Dl,Dm,xN,Dn,xO,Do,Ab,Ac,Ad,Am,Av,trivial⟩ mixed Tryz.func5 rfl rfl (enters_of Tryz.func5 (by kernel_rfl) rfl) rfl (Nat.le_of_ble_eq_true rfl) rfl .no (fun d=>by kernel_rfl)
end R
namespace D
open Go.RowKit
theorem qP (x0:Int×(List ((List Int)×(List (Int×Int×Int×Int))))) (x1:(List (Int×(List Bool)×(List (List Int))))×(List (Int×((List (Int×Int×Int×Int)))×Int))) (x2:Int×Int×Int) (r:Bool) (hm:dF x0 x1 x2=some r) {I:Hp} {w0:World} (v0_0:Value) (v1_0:Value) (v1_1:Value) (r0_0:(ae 29 (aD (ae 3 bp) (ae 156 (aD bp (aD bp (aD bp bp)))))).rd I [v0_0] x0.2) (r1_0:(ae 133 (aD bp (aD (ae 4 qS) (ae 26 (ae 3 bp))))).rd I [v1_0] x1.1) (r1_1:(ae 139 (aD bp (aD (ae 232 (aD bp (aD bp (aD bp bp)))) bp))).rd I [v1_1] x1.2):Con Tryz.prog 5 #[.agg #[.int .i64 x0.1,v0_0],.agg #[v1_0,v1_1],.agg #[.int .i64 x2.1,.int .i64 x2.2.1,.int .i64 x2.2.2]] I w0 [] (fun v=>v= .bool r) (fun _=>[]):=fun w C hs =>
 ((R.qO).con w0 I [.agg #[.int .i64 x0.1,v0_0],.agg #[v1_0,v1_1],.agg #[.int .i64 x2.1,.int .i64 x2.2.1,.int .i64 x2.2.2]] (x0,(x1,(x2,()))) r ⟨_,_,rfl,⟨[.int .i64 x0.1,v0_0],rfl,⟨_,_,rfl,rfl,r0_0⟩⟩,⟨_,_,rfl,⟨[v1_0,v1_1],rfl,⟨_,_,rfl,r1_0,r1_1⟩⟩,⟨_,_,rfl,⟨[.int .i64 x2.1,.int .i64 x2.2.1,.int .i64 x2.2.2],rfl,⟨_,_,rfl,rfl,⟨_,_,rfl,rfl,rfl⟩⟩⟩,rfl⟩⟩⟩ hm w C hs).mono fun e w' ⟨v,he,_,hst⟩=>by
  obtain ⟨h1,h2⟩:=R.uC (h1:=fun _=>rfl) (show St I w0 w' (Ch.own R.Ty.bool.rep [v] r::C) from hst)
  exact ⟨v,he,(List.cons.inj h1).1,h2⟩
end D
namespace D
open Go.RowKit
def I64 (n:Int):Prop:= -9223372036854775808≤n∧n≤9223372036854775807
class Data (α:Type) where
 lim:α→Prop
 sm:α→Prop
instance:Data Int:=⟨I64,fun _=>True⟩
instance:Data Bool:=⟨fun _=>True,fun _=>True⟩
instance:Data ByteArray:=⟨fun s=>s.size≤9223372036854775807,fun s=>s.size≤1048576⟩
instance {α β:Type} [Data α] [Data β] :Data (α×β):=⟨fun x=>Data.lim x.1∧Data.lim x.2,fun x=>Data.sm x.1∧Data.sm x.2⟩
instance {α:Type} [Data α] :Data (List α):=⟨fun xs=>xs.length≤9223372036854775807∧ ∀x,x∈xs→Data.lim x,fun xs=>xs.length≤1048576∧ ∀x,x∈xs→Data.sm x⟩
structure Opens (P:Program) (t:TypeId) {α:Type} [Data α] (R:Rep α):Prop where
 out: ∀ {H:Type} (enc:TypeId×Value→H) (w:World) (fuel:Nat) (cs:List Value) (x:DataW H×List MemPlace),DataW.trod enc P w 0 (fun _=>true) true fuel t cs=some x→ ∃a:α,R.rd (hp w) cs a∧Data.lim a
theorem N1 {P:Program} {t:TypeId} (h:P.underlying t=some (.int .i64)):Opens P t bp:=by
 constructor
 intro H enc w fuel cs x hx
 obtain ⟨n,rfl,-,hw⟩:=DataW.trod_int h hx
 refine ⟨n,rfl,show I64 n from ?_⟩
 simp[Lit.wf,IntKind.min,IntKind.max,IntKind.signed,IntKind.bits] at hw
 unfold I64
 omega
theorem Lg {P:Program} {t:TypeId} (h:P.underlying t=some .bool):Opens P t qS:=by
 constructor
 intro H enc w fuel cs x hx
 obtain ⟨n,rfl,-⟩:=DataW.trod_bool h hx
 exact ⟨n,rfl,trivial⟩
theorem gK {P:Program} {t e:TypeId} {α:Type} [Data α] {R:Rep α} {E:TypeId} (h:P.underlying t=some (.slice e)) (hc:P.cellsOf e=R.size) (h0:0<R.size) (he:Opens P e R):Opens P t (ae E R):=by
 constructor
 intro H enc w fuel cs x hx
 rcases Go.Deep.open_slice h hx with ⟨rfl,-⟩ | ⟨a,len,cap,m,n,D,Pl,rfl,-,hl,hm,hmm,-,hel⟩
 ·exact ⟨[],⟨none,0,rfl,by simp,.inl rfl⟩,Nat.zero_le _,fun x hx=>by cases hx⟩
 have hlm:m=cap:=by simpa using hmm
 subst hlm
 rw[hc] at hel
 by_cases hz:len=0
 ·subst hz
  exact ⟨[],⟨some a,m,rfl,by simp,.inl rfl⟩,Nat.zero_le _,fun x hx=>by cases hx⟩
 ·have hone: ∀i,i<len→ ∃c:List Value,∃y:α,c.length=R.size∧(∀j,j<R.size→w.cell? ((a.add (i*R.size)).add j)=c[j]?)∧R.rd (hp w) c y∧Data.lim y:=by
   intro i hi
   obtain ⟨c,h1,h2⟩:=hel i (by omega)
   obtain ⟨-,h3,h4⟩:=World.cells?_some h1
   obtain ⟨y,hy⟩:=he.out enc w _ _ _ h2
   exact ⟨c,y,h3,h4,hy⟩
  obtain ⟨c0,y0,hc0,hr0,-⟩:=hone 0 (by omega)
  have h00:=hr0 0 h0
  have hsome: ∃v,c0[0]? =some v:=⟨_,List.getElem?_eq_getElem (by omega)⟩
  obtain ⟨v,hv⟩:=hsome
  rw[hv] at h00
  have ha:(a.add (0*R.size)).add 0=a:=by simp[Addr.add]
  rw[ha] at h00
  obtain ⟨b,off,spot⟩:=a
  have hb: ∃ccs T fr,w.heap[b]? =some (.cells ccs T fr)∧spot=none:=by
   simp only[World.cell?] at h00
   split at h00
   ·rename_i ccs T fr heq
    cases spot with
    | none=>exact ⟨ccs,T,fr,heq,rfl⟩
    | some s=>simp at h00
   ·simp at h00
  obtain ⟨ccs,T,fr,hh,rfl⟩:=hb
  have hadd: ∀i j,(Addr.add ⟨b,off,none⟩ i).add j=⟨b,off+i+j,none⟩:=by
   intro i j
   by_cases h1:i=0 <;> by_cases h2:j=0 <;> simp[Addr.add,h1,h2,Nat.add_assoc]
  haveI:Inhabited α:=⟨y0⟩
  obtain ⟨X,hX⟩:=Go.Deep.choose_lt (α:=α) (n:=len) (p:=fun i y=> ∃c:List Value,c.length=R.size∧(∀j,j<R.size→ccs.toList[off+i*R.size+j]? =c[j]?)∧R.rd (hp w) c y∧Data.lim y) (fun i hi=>by
   obtain ⟨c,y,h1,h2,h3⟩:=hone i hi
   refine ⟨y,c,h1,fun j hj=>?_,h3⟩
   have:=h2 j hj
   rw[hadd] at this
   simp only[World.cell?,hh] at this
   simpa using this)
  have hlen:((List.range len).map X).length=len:=by simp
  have hel2: ∀i y,((List.range len).map X)[i]? =some y→i<len∧y=X i:=fun i y hy=>by
   have hi:i<len:=by have:=(List.getElem?_eq_some_iff.1 hy).1;omega
   exact ⟨hi,by simpa [hi] using hy.symm⟩
  refine ⟨(List.range len).map X,⟨some ⟨b,off,none⟩,m,by rw[hlen],by rw[hlen];unfold maxLen at hm;unfold lim;omega,.inr ⟨b,off,ccs,T,fr,rfl,hh,fun i y hy=>?_⟩⟩,by rw[hlen];unfold maxLen at hm;omega,fun y hy=>?_⟩
  ·obtain ⟨hi,rfl⟩:=hel2 i y hy
   obtain ⟨c,e1,e2,e3,-⟩:=hX i hi
   exact ⟨c,e1,e2,e3⟩
  ·obtain ⟨i,hi,he⟩:=List.mem_iff_getElem?.1 hy |>.imp fun i hi=>hel2 i y hi
   obtain ⟨-,-,-,-,e4⟩:=hX i hi
   rw[he];exact e4
structure OpensFs (P:Program) (fs:List Field) (o:Nat) {α:Type} [Data α] (R:Rep α):Prop where
 out: ∀ {H:Type} (enc:TypeId×Value→H) (w:World) (fuel:Nat) (cs:List Value),cs.length=o+R.size→
  (∀f∈fs,∃x,DataW.trod enc P w 0 (fun _=>true) true fuel f.type ((cs.drop f.offset).take (P.cellsOf f.type))=some x)→ ∃a:α,R.rd (hp w) (cs.drop o) a∧Data.lim a
theorem ic {P:Program} {f:Field} {o:Nat} {α:Type} [Data α] {R:Rep α} (ho:f.offset=o) (hc:P.cellsOf f.type=R.size) (h:Opens P f.type R):OpensFs P [f] o R:=by
 constructor
 intro H enc w fuel cs hl hx
 obtain ⟨x,hx⟩:=hx f (by simp)
 rw[ho,hc,List.take_of_length_le (by rw[List.length_drop];omega)] at hx
 exact h.out enc w _ _ _ hx
theorem cM {P:Program} {f:Field} {fs:List Field} {o:Nat} {α β:Type} [Data α] [Data β] {R:Rep α} {S:Rep β} (ho:f.offset=o) (hc:P.cellsOf f.type=R.size) (h:Opens P f.type R) (hs:OpensFs P fs (o+R.size) S):OpensFs P (f::fs) o (aD R S):=by
 constructor
 intro H enc w fuel cs hl hx
 have hl':cs.length=o+(R.size+S.size):=hl
 obtain ⟨b,hb,hlb⟩:=hs.out enc w fuel cs (by omega) (fun g hg=>hx g (by simp[hg]))
 obtain ⟨x,hx⟩:=hx f (by simp)
 rw[ho,hc] at hx
 obtain ⟨a,ha,hla⟩:=h.out enc w _ _ _ hx
 refine ⟨(a,b),⟨(cs.drop o).take R.size,cs.drop (o+R.size),?_,ha,hb⟩,hla,hlb⟩
 rw[←List.drop_drop,List.take_append_drop]
theorem ed {P:Program} {t:TypeId} {fs:Array Field} {α:Type} [Data α] {R:Rep α} (h:P.underlying t=some (.struct fs)) (hc:P.cellsOf t=R.size) (hf:OpensFs P fs.toList 0 R):Opens P t R:=by
 constructor
 intro H enc w fuel cs x hx
 obtain ⟨xs,n,-,-,hl,hn,hel⟩:=DataW.trod_struct h hx
 have:=hf.out enc w n cs (by omega) (fun f hm=>by
  obtain ⟨i,hi,rfl⟩:=List.getElem_of_mem hm
  have h1:fs[i]? =some fs.toList[i]:=by simp
  exact ⟨_,(hel i _ h1).trans (List.getElem?_eq_getElem (by simp at hi;omega))⟩)
 simpa using this
theorem St.below {w0 w:World} {cs:List Ch} (h:St (hp w0) w0 w cs):Below w0.heap.size w0 w:=by
 obtain ⟨⟨h1,h2,h3,h4⟩,h5,-⟩:=h
 refine ⟨h1,h2,h3,h4,fun b hb=>?_⟩
 have e:w0.heap[b]? =some w0.heap[b]:=Array.getElem?_eq_getElem hb
 rw[e];exact h5 b _ e
end D
namespace D
open Go.RowKit
theorem cC {n:Int} (h1: -9223372036854775808≤n) (h2:n≤9223372036854775807):IntKind.i64.wrap n=n:=by
 simp only[IntKind.wrap,IntKind.bits,IntKind.signed,Bool.true_and]
 split <;> rename_i h <;> simp at h <;> omega
theorem aa {i:Nat} (h:i<9223372036854775807):IntKind.i64.wrap ((i:Int)+1)=((i+1:Nat):Int):=by
 rw[cC (by omega) (by omega)];rfl
theorem al {α:Type} {xs:List α} {i:Nat} (h:i<xs.length):ay xs (i:Int)=some (xs[i]):=by
 unfold ay
 rw[if_pos (Int.natCast_nonneg _)]
 simp[h]
theorem bw {i n:Nat} (h:i<n):decide ((i:Int)<(n:Int))=true:=by simp[h]
theorem ba {n:Nat} :decide ((n:Int)<(n:Int))=false:=by simp
theorem kI (k:Nat) (h:k≤9223372036854775807):k<aC:=by unfold aC;omega
theorem vA {α:Type} {b n:Nat} {z:α} (h:n*b≤140737488355328):mkI b (n:Int) z=some (List.replicate n z):=by
 unfold mkI
 rw[if_pos ⟨Int.natCast_nonneg _,by simpa using h⟩];simp
theorem FY {R S:Type} {f:S→Option (Out R S)} (inv:Nat→S) (N:Nat) (h: ∀i,i<N→f (inv i)=some (.nxt (inv (i+1)))): ∀(m i k:Nat),i+m=N→ai f (k+m) (inv i)=ai f k (inv N)
 | 0,i,k,e=>by rw[show i=N by omega];rfl
 | m+1,i,k,e=>by
  rw[←Nat.add_assoc,ai,h i (by omega)]
  exact FY inv N h m (i+1) k (by omega)
theorem FZ {R S:Type} {f:S→Option (Out R S)} (inv:Nat→S) (N:Nat) {s:S} (h: ∀i,i<N→f (inv i)=some (.nxt (inv (i+1)))) (he:f (inv N)=some (.brk s)) (hN:N<aC):ai f aC (inv 0)=some (.brk s):=by
 have e:aC=(aC - N - 1)+1+N:=by omega
 rw[e,FY inv N h N 0 _ (by omega),ai,he]
theorem toL {R α:Type} {f:List α×Int→Option (Out R (List α×Int))} {z:α} (xs:List α) (hN:xs.length≤9223372036854775807)
  (hstep: ∀ys i (h:i<xs.length),ys.length=xs.length→f (ys,(i:Int))=some (.nxt (ys.set i xs[i],((i+1:Nat):Int)))) (hend: ∀ys,ys.length=xs.length→f (ys,(xs.length:Int))=some (.brk (ys,(xs.length:Int)))) :
  ai f aC (List.replicate xs.length z,0)=some (.brk (xs,(xs.length:Int))):=by
 have h0:(List.replicate xs.length z,(0:Int))=(fun i:Nat=>(xs.take i++(List.replicate xs.length z).drop i,(i:Int))) 0:=by simp
 rw[h0]
 refine FZ (fun i:Nat=>(xs.take i++(List.replicate xs.length z).drop i,(i:Int))) xs.length (fun i hi=>?_) ?_ (kI _ hN)
 ·have hl:(xs.take i++(List.replicate xs.length z).drop i).length=xs.length:=by
   rw[List.length_append,List.length_take,List.length_drop,List.length_replicate];omega
  rw[hstep _ i hi hl]
  congr 3
  have ht:(xs.take i).length=i:=by rw[List.length_take];omega
  rw[List.set_append_right _ _ (by omega),ht,Nat.sub_self,List.drop_eq_getElem_cons (by rw[List.length_replicate];exact hi),List.set_cons_zero,List.take_succ_eq_append_getElem hi,List.append_assoc]
  rfl
 ·have:=hend xs rfl
  rw[List.take_of_length_le (Nat.le_refl _),List.drop_of_length_le (by rw[List.length_replicate];exact Nat.le_refl _),List.append_nil]
  exact this
def JD {α:Type} [Data α] (m:α→Int→Option Int):Prop:= ∀x l,Data.lim x→0≤l→l≤1048576→ ∃r,m x l=some r∧(r<0∨(0≤r∧r≤l∧Data.sm x))
def F0 {α:Type} [Data α] (m:α→Option α):Prop:= ∀x,Data.sm x→m x=some x
def Bp {α:Type} [Data α] [DecidableEq α] (m:α→α→Option Bool):Prop:= ∀x y,Data.sm x→Data.sm y→m x y=some (decide (x=y))
theorem Y9 {α:Type} [Data α] {f:Int×Int→Option (Out Int (Int×Int))} (xs:List α)
  (hstep: ∀i (h:i<xs.length) l,0≤l→l≤1048576→ ∃r,f (l,(i:Int))=some (if r<0 then .ret (-1) else .nxt (r,((i+1:Nat):Int)))∧(r<0∨(0≤r∧r≤l∧Data.sm xs[i])))
  (hend: ∀l,f (l,(xs.length:Int))=some (.brk (l,(xs.length:Int)))): ∀(m i k:Nat) (l:Int),i+m=xs.length→m<k→0≤l→l≤1048576→
   ai f k (l,(i:Int))=some (.ret (-1))∨ ∃r,ai f k (l,(i:Int))=some (.brk (r,(xs.length:Int)))∧0≤r∧r≤l∧ ∀j (h:j<xs.length),i≤j→Data.sm xs[j]
 | 0,i,k,l,e,hk,h0,h1=>by
  obtain ⟨k,rfl⟩: ∃q,k=q+1:=⟨k - 1,by omega⟩
  obtain rfl:i=xs.length:=by omega
  exact .inr ⟨l,by rw[ai,hend],h0,Int.le_refl _,fun j hj hi=>by omega⟩
 | m+1,i,k,l,e,hk,h0,h1=>by
  obtain ⟨k,rfl⟩: ∃q,k=q+1:=⟨k - 1,by omega⟩
  obtain ⟨r,e1,e2⟩:=hstep i (by omega) l h0 h1
  rw[ai,e1]
  rcases e2 with e2 | ⟨e2,e3,e4⟩
  ·rw[if_pos e2];exact .inl rfl
  ·rw[if_neg (by omega)]
   rcases Y9 xs hstep hend m (i+1) k r (by omega) (by omega) e2 (by omega) with h | ⟨q,g1,g2,g3,g4⟩
   ·exact .inl h
   ·refine .inr ⟨q,g1,g2,by omega,fun j hj hi=>?_⟩
    by_cases hji:j=i
    ·subst hji;exact e4
    ·exact g4 j hj (by omega)
theorem szL {α:Type} [Data α] {f:Int×Int→Option (Out Int (Int×Int))} (xs:List α) {l:Int} (hN:xs.length≤9223372036854775807)
  (hstep: ∀i (h:i<xs.length) l,0≤l→l≤1048576→ ∃r,f (l,(i:Int))=some (if r<0 then .ret (-1) else .nxt (r,((i+1:Nat):Int)))∧(r<0∨(0≤r∧r≤l∧Data.sm xs[i])))
  (hend: ∀l,f (l,(xs.length:Int))=some (.brk (l,(xs.length:Int)))) (h0:0≤l) (h1:l≤1048576) :
  ∃r,(if decide (IntKind.i64.wrap (l - (xs.length:Int))<0) then (some (-1)) else (az (ai f aC (IntKind.i64.wrap (l - (xs.length:Int)),0)) (fun r=>some r) (fun s4=>some s4.1)))=some r∧(r<0∨(0≤r∧r≤l∧Data.sm xs)):=by
 rw[cC (by omega) (by omega)]
 by_cases h:l - (xs.length:Int)<0
 ·exact ⟨-1,by rw[if_pos (decide_eq_true h)],.inl (by decide)⟩
 ·rw[if_neg (by simpa using h)]
  rcases Y9 xs hstep hend xs.length 0 aC (l - xs.length) (by omega) (kI _ hN) (by omega) (by omega) with e | ⟨r,e,g1,g2,g3⟩
  ·exact ⟨-1,by rw[show ((0:Int))=((0:Nat):Int) from rfl,e];rfl,.inl (by decide)⟩
  ·refine ⟨r,by rw[show ((0:Int))=((0:Nat):Int) from rfl,e];rfl,.inr ⟨g1,by omega,by omega,fun x hx=>?_⟩⟩
   obtain ⟨j,hj,rfl⟩:=List.getElem_of_mem hx
   exact g3 j hj (Nat.zero_le _)
theorem szF {α:Type} [Data α] (xs:List α) {l:Int} (hN:xs.length≤9223372036854775807) (hf: ∀x:α,Data.sm x) (h0:0≤l) (h1:l≤1048576) :
  ∃r,(if decide (IntKind.i64.wrap (l - (xs.length:Int))<0) then (some (-1)) else (some (IntKind.i64.wrap (l - (xs.length:Int)))))=some r∧(r<0∨(0≤r∧r≤l∧Data.sm xs)):=by
 rw[cC (by omega) (by omega)]
 by_cases h:l - (xs.length:Int)<0
 ·exact ⟨-1,by rw[if_pos (decide_eq_true h)],.inl (by decide)⟩
 ·exact ⟨_,by rw[if_neg (by simpa using h)],.inr ⟨by omega,by omega,by omega,fun x _=>hf x⟩⟩
theorem Yc {α:Type} [DecidableEq α] {f:Int→Option (Out Bool Int)} (xs ys:List α) (hl:xs.length=ys.length)
  (hstep: ∀i (h:i<xs.length) (h':i<ys.length),f (i:Int)=some (if xs[i] =ys[i] then .nxt ((i+1:Nat):Int) else .ret false)) (hend:f (xs.length:Int)=some (.brk (xs.length:Int))): ∀(m i k:Nat),i+m=xs.length→m<k→
   ai f k (i:Int)=some (if xs.drop i=ys.drop i then .brk (xs.length:Int) else .ret false)
 | 0,i,k,e,hk=>by
  obtain ⟨k,rfl⟩: ∃q,k=q+1:=⟨k - 1,by omega⟩
  obtain rfl:i=xs.length:=by omega
  rw[ai,hend,List.drop_of_length_le (Nat.le_refl _),List.drop_of_length_le (by omega),if_pos rfl]
 | m+1,i,k,e,hk=>by
  obtain ⟨k,rfl⟩: ∃q,k=q+1:=⟨k - 1,by omega⟩
  have hi:i<xs.length:=by omega
  have hi':i<ys.length:=by omega
  have d1:=List.drop_eq_getElem_cons hi
  have d2:=List.drop_eq_getElem_cons hi'
  rw[ai,hstep i hi hi',d1,d2]
  by_cases h:xs[i] =ys[i]
  ·rw[if_pos h]
   simp only
   rw[Yc xs ys hl hstep hend m (i+1) k (by omega) (by omega)]
   simp only[List.cons.injEq,h,true_and]
  ·rw[if_neg h]
   simp only[List.cons.injEq,h,false_and,if_false]
theorem eqL {α:Type} [DecidableEq α] {f:Int→Option (Out Bool Int)} (xs ys:List α) (hN:xs.length≤9223372036854775807)
  (hstep: ∀i (h:i<xs.length) (h':i<ys.length),f (i:Int)=some (if xs[i] =ys[i] then .nxt ((i+1:Nat):Int) else .ret false)) (hend:f (xs.length:Int)=some (.brk (xs.length:Int))) :
  (if (xs.length:Int) !=(ys.length:Int) then (some false) else (az (ai f aC 0) (fun r=>some r) (fun s4=>some true)))=some (decide (xs=ys)):=by
 by_cases hl:xs.length=ys.length
 ·rw[if_neg (by rw[hl];simp),show ((0:Int))=((0:Nat):Int) from rfl,Yc xs ys hl hstep hend xs.length 0 aC (by omega) (kI _ hN)]
  by_cases h:xs=ys
  ·subst h;simp[az]
  ·simp[az,h]
 ·have:xs≠ys:=fun e=>hl (by rw[e])
  rw[if_pos (by simp;omega)];simp[this]
theorem ff {α:Type} {c d:Prop} [Decidable c] [Decidable d] {a b:α} (h:c↔d):(if c then some a else some b)=some (if d then a else b):=by
 by_cases k:c
 ·rw[if_pos k,if_pos (h.1 k)]
 ·rw[if_neg k,if_neg (fun e=>k (h.2 e))]
theorem qe {α:Type} {c d:Prop} [Decidable c] [Decidable d] {a b:α} (h:c↔ ¬d):(if c then some b else some a)=some (if d then a else b):=by
 by_cases k:d
 ·rw[if_neg (fun e=>h.1 e k),if_pos k]
 ·rw[if_pos (h.2 k),if_neg k]
theorem eqB {α:Type} [DecidableEq α] {f:Int→Option (Out Bool Int)} {K:Option Bool} (xs ys:List α) (hN:xs.length≤9223372036854775807) (hl:xs.length=ys.length)
  (hstep: ∀i (h:i<xs.length) (h':i<ys.length),f (i:Int)=some (if xs[i] =ys[i] then .nxt ((i+1:Nat):Int) else .ret false)) (hend:f (xs.length:Int)=some (.brk (xs.length:Int))) :
  az (ai f aC 0) (fun r=>some r) (fun s4=>K)=(if xs=ys then K else some false):=by
 rw[show ((0:Int))=((0:Nat):Int) from rfl,Yc xs ys hl hstep hend xs.length 0 aC (by omega) (kI _ hN)]
 by_cases h:xs=ys
 ·subst h;simp[az]
 ·simp[az,h]
theorem WI {f:Int→Option (Out Int Int)} (xs ys:List Int)
  (hstep: ∀i (h:i<xs.length) (h':i<ys.length),f (i:Int)=some (if xs[i] < ys[i] then .ret (-1) else if xs[i] > ys[i] then .ret 1 else .nxt ((i+1:Nat):Int))) (hend: ∀i,xs.length≤i∨ys.length≤i→f (i:Int)=some (.brk (i:Int))): ∀(m i k:Nat),i+m=xs.length→m<k→
   (∃r,ai f k (i:Int)=some (.ret r)∧r≠0∧xs≠ys)∨ ∃s,ai f k (i:Int)=some (.brk s)∧(xs.length=ys.length→xs.drop i=ys.drop i)
 | 0,i,k,e,hk=>by
  obtain ⟨k,rfl⟩: ∃q,k=q+1:=⟨k - 1,by omega⟩
  exact .inr ⟨_,by rw[ai,hend i (.inl (by omega))],fun h=>by rw[List.drop_of_length_le (by omega),List.drop_of_length_le (by omega)]⟩
 | m+1,i,k,e,hk=>by
  obtain ⟨k,rfl⟩: ∃q,k=q+1:=⟨k - 1,by omega⟩
  have hi:i<xs.length:=by omega
  by_cases hi':i<ys.length
  ·have hne: ∀h:xs[i] ≠ys[i],xs≠ys:=fun h e=>h (by subst e;rfl)
   rw[ai,hstep i hi hi']
   by_cases h1:xs[i] < ys[i]
   ·rw[if_pos h1];exact .inl ⟨-1,rfl,by decide,hne (by omega)⟩
   ·rw[if_neg h1]
    by_cases h2:xs[i] > ys[i]
    ·rw[if_pos h2];exact .inl ⟨1,rfl,by decide,hne (by omega)⟩
    ·rw[if_neg h2]
     rcases WI xs ys hstep hend m (i+1) k (by omega) (by omega) with h | ⟨s,g1,g2⟩
     ·exact .inl h
     ·refine .inr ⟨s,g1,fun hl=>?_⟩
      have h3:xs[i] =ys[i]:=by omega
      rw[List.drop_eq_getElem_cons hi,List.drop_eq_getElem_cons hi',g2 hl,h3]
  ·exact .inr ⟨_,by rw[ai,hend i (.inr (by omega))],fun h=>by omega⟩
instance:LawfulBEq ByteArray where
 eq_of_beq {a b} h:=ByteArray.ext (eq_of_beq (show (a.data==b.data)=true from h))
 rfl {a}:=beq_self_eq_true a.data
theorem Za {α β γ δ:Type} {a b:α×β×γ×δ} :(a.1=b.1∧a.2.1=b.2.1∧a.2.2.1=b.2.2.1∧a.2.2.2=b.2.2.2)↔a=b:=by rw[Prod.ext_iff,Prod.ext_iff,Prod.ext_iff]
theorem dj {α β:Type} (p:α×β):(p.1,p.2)=p:=rfl
theorem au {α:Type} [Data α] {xs:List α} (h:Data.sm xs):xs.length≤1048576∧ ∀x,x∈xs→Data.sm x:=h
theorem eM {α:Type} [Data α] {xs:List α} (h:Data.lim xs):xs.length≤9223372036854775807∧ ∀x,x∈xs→Data.lim x:=h
end D
set_option synthInstance.maxSize 20000
set_option synthInstance.maxHeartbeats 2000000
namespace D
open Go.RowKit
theorem N2:JD tJ:=fun xs l hl h0 h1=>szF xs (eM hl).1 (fun _=>trivial) h0 h1
theorem JE:JD sq:=fun xs l hl h0 h1=>szF xs (eM hl).1 (fun _=>trivial) h0 h1
theorem N3:JD tK:=fun xs l hl h0 h1=>szL (f:=lp xs) xs (eM hl).1 (fun i h l k0 k1=>by
 obtain ⟨r,e,hr⟩:=JE xs[i] l ((eM hl).2 _ (List.getElem_mem h)) k0 k1
 refine ⟨r,?_,hr⟩
 simp only[lp,bw h,if_true,al h,Option.bind_some,dj,e,aa (show i<9223372036854775807 by have:=(eM hl).1;omega)]
 exact ff (by simp)) (fun l=>by simp only[lp,ba];rfl) h0 h1
theorem DD:JD jO:=by
 intro x l hl h0 h1
 unfold jO
 try simp only[dj]
 obtain ⟨r1,e1,k1⟩:=N2 x.2.1 l hl.2.1 (by omega) (by omega)
 rw[e1];simp only[Option.bind_some]
 rcases k1 with k1 | ⟨k1,j1,s1⟩
 ·exact ⟨-1,by rw[if_pos (decide_eq_true k1)],.inl (by decide)⟩
 rw[if_neg (by simpa using k1)]
 obtain ⟨r2,e2,k2⟩:=N3 x.2.2 r1 hl.2.2 (by omega) (by omega)
 rw[e2];simp only[Option.bind_some]
 rcases k2 with k2 | ⟨k2,j2,s2⟩
 ·exact ⟨-1,by rw[if_pos (decide_eq_true k2)],.inl (by decide)⟩
 rw[if_neg (by simpa using k2)]
 exact ⟨_,rfl,.inr ⟨by omega,by omega,⟨trivial,s1,s2⟩⟩⟩
theorem Bq:JD mj:=fun xs l hl h0 h1=>szL (f:=fo xs) xs (eM hl).1 (fun i h l k0 k1=>by
 obtain ⟨r,e,hr⟩:=DD xs[i] l ((eM hl).2 _ (List.getElem_mem h)) k0 k1
 refine ⟨r,?_,hr⟩
 simp only[fo,bw h,if_true,al h,Option.bind_some,dj,e,aa (show i<9223372036854775807 by have:=(eM hl).1;omega)]
 exact ff (by simp)) (fun l=>by simp only[fo,ba];rfl) h0 h1
theorem Lh:JD rh:=fun xs l hl h0 h1=>szF xs (eM hl).1 (fun _=>⟨trivial,trivial,trivial,trivial⟩) h0 h1
theorem Re:JD sr:=by
 intro x l hl h0 h1
 unfold sr
 try simp only[dj]
 obtain ⟨r1,e1,k1⟩:=Lh x l hl (by omega) (by omega)
 rw[e1];simp only[Option.bind_some]
 rcases k1 with k1 | ⟨k1,j1,s1⟩
 ·exact ⟨-1,by rw[if_pos (decide_eq_true k1)],.inl (by decide)⟩
 rw[if_neg (by simpa using k1)]
 exact ⟨_,rfl,.inr ⟨by omega,by omega,s1⟩⟩
theorem Br:JD iJ:=by
 intro x l hl h0 h1
 unfold iJ
 try simp only[dj]
 obtain ⟨r1,e1,k1⟩:=Re x.2.1 l hl.2.1 (by omega) (by omega)
 rw[e1];simp only[Option.bind_some]
 rcases k1 with k1 | ⟨k1,j1,s1⟩
 ·exact ⟨-1,by rw[if_pos (decide_eq_true k1)],.inl (by decide)⟩
 rw[if_neg (by simpa using k1)]
 exact ⟨_,rfl,.inr ⟨by omega,by omega,⟨trivial,s1,trivial⟩⟩⟩
theorem Aw:JD kM:=fun xs l hl h0 h1=>szL (f:=eG xs) xs (eM hl).1 (fun i h l k0 k1=>by
 obtain ⟨r,e,hr⟩:=Br xs[i] l ((eM hl).2 _ (List.getElem_mem h)) k0 k1
 refine ⟨r,?_,hr⟩
 simp only[eG,bw h,if_true,al h,Option.bind_some,dj,e,aa (show i<9223372036854775807 by have:=(eM hl).1;omega)]
 exact ff (by simp)) (fun l=>by simp only[eG,ba];rfl) h0 h1
theorem F5:JD lq:=by
 intro x l hl h0 h1
 unfold lq
 try simp only[dj]
 obtain ⟨r1,e1,k1⟩:=Bq x.1 l hl.1 (by omega) (by omega)
 rw[e1];simp only[Option.bind_some]
 rcases k1 with k1 | ⟨k1,j1,s1⟩
 ·exact ⟨-1,by rw[if_pos (decide_eq_true k1)],.inl (by decide)⟩
 rw[if_neg (by simpa using k1)]
 obtain ⟨r2,e2,k2⟩:=Aw x.2 r1 hl.2 (by omega) (by omega)
 rw[e2];simp only[Option.bind_some]
 rcases k2 with k2 | ⟨k2,j2,s2⟩
 ·exact ⟨-1,by rw[if_pos (decide_eq_true k2)],.inl (by decide)⟩
 rw[if_neg (by simpa using k2)]
 exact ⟨_,rfl,.inr ⟨by omega,by omega,⟨s1,s2⟩⟩⟩
theorem N4:F0 pL:=by
 intro xs hx
 have hn:=(au hx).1
 unfold pL
 rw[vA (by omega)];simp only[Option.bind_some]
 rw[toL (f:=lr xs) xs (by omega) (fun ys i h hy=>by simp only[lr,bw h,if_true,al h,al (show i<ys.length by omega),Option.bind_some,dj,aa (show i<9223372036854775807 by omega),Int.toNat_natCast]) (fun ys hy=>by simp only[lr,ba];rfl)]
 rfl
theorem JF:F0 oW:=by
 intro xs hx
 have hn:=(au hx).1
 unfold oW
 rw[vA (by omega)];simp only[Option.bind_some]
 rw[toL (f:=mG xs) xs (by omega) (fun ys i h hy=>by simp only[mG,bw h,if_true,al h,al (show i<ys.length by omega),Option.bind_some,dj,aa (show i<9223372036854775807 by omega),Int.toNat_natCast]) (fun ys hy=>by simp only[mG,ba];rfl)]
 rfl
theorem N5:F0 pM:=by
 intro xs hx
 have hn:=(au hx).1
 unfold pM
 rw[vA (by omega)];simp only[Option.bind_some]
 rw[toL (f:=lu xs) xs (by omega) (fun ys i h hy=>by simp only[lu,bw h,if_true,al h,al (show i<ys.length by omega),Option.bind_some,dj,JF xs[i] ((au hx).2 _ (List.getElem_mem h)),aa (show i<9223372036854775807 by omega),Int.toNat_natCast]) (fun ys hy=>by simp only[lu,ba];rfl)]
 rfl
theorem DE:F0 jP:=by
 intro x hx
 unfold jP
 simp only[dj,Option.bind_some,N4 x.2.1 hx.2.1,N5 x.2.2 hx.2.2]
theorem Bs:F0 iK:=by
 intro xs hx
 have hn:=(au hx).1
 unfold iK
 rw[vA (by omega)];simp only[Option.bind_some]
 rw[toL (f:=fp xs) xs (by omega) (fun ys i h hy=>by simp only[fp,bw h,if_true,al h,al (show i<ys.length by omega),Option.bind_some,dj,DE xs[i] ((au hx).2 _ (List.getElem_mem h)),aa (show i<9223372036854775807 by omega),Int.toNat_natCast]) (fun ys hy=>by simp only[fp,ba];rfl)]
 rfl
theorem N6:F0 pN:=by
 intro x hx
 unfold pN
 simp only[dj,Option.bind_some]
theorem Li:F0 oe:=by
 intro xs hx
 have hn:=(au hx).1
 unfold oe
 rw[vA (by omega)];simp only[Option.bind_some]
 rw[toL (f:=jQ xs) xs (by omega) (fun ys i h hy=>by simp only[jQ,bw h,if_true,al h,al (show i<ys.length by omega),Option.bind_some,dj,N6 xs[i] ((au hx).2 _ (List.getElem_mem h)),aa (show i<9223372036854775807 by omega),Int.toNat_natCast]) (fun ys hy=>by simp only[jQ,ba];rfl)]
 rfl
theorem Rf:F0 su:=by
 intro x hx
 unfold su
 simp only[dj,Option.bind_some,Li x hx]
theorem Bt:F0 iL:=by
 intro x hx
 unfold iL
 simp only[dj,Option.bind_some,Rf x.2.1 hx.2.1]
theorem Ax:F0 gP:=by
 intro xs hx
 have hn:=(au hx).1
 unfold gP
 rw[vA (by omega)];simp only[Option.bind_some]
 rw[toL (f:=eH xs) xs (by omega) (fun ys i h hy=>by simp only[eH,bw h,if_true,al h,al (show i<ys.length by omega),Option.bind_some,dj,Bt xs[i] ((au hx).2 _ (List.getElem_mem h)),aa (show i<9223372036854775807 by omega),Int.toNat_natCast]) (fun ys hy=>by simp only[eH,ba];rfl)]
 rfl
theorem F6:F0 eu:=by
 intro x hx
 unfold eu
 simp only[dj,Option.bind_some,Bs x.1 hx.1,Ax x.2 hx.2]
theorem N7:Bp tL:=fun xs ys hx hy=>eqL (f:=lx xs ys) xs ys (by have:=(au hx).1;omega) (fun i h h'=>by
 simp only[lx,bw h,if_true,al h,al h',Option.bind_some,dj,aa (show i<9223372036854775807 by have:=(au hx).1;omega)]
 first | exact ff (by simp) | exact qe (by simp) | exact ff (by simp[Prod.ext_iff])) (by simp only[lx,ba];rfl)
theorem JG:Bp sv:=fun xs ys hx hy=>eqL (f:=mH xs ys) xs ys (by have:=(au hx).1;omega) (fun i h h'=>by
 simp only[mH,bw h,if_true,al h,al h',Option.bind_some,dj,aa (show i<9223372036854775807 by have:=(au hx).1;omega)]
 first | exact ff (by simp) | exact qe (by simp) | exact ff (by simp[Prod.ext_iff])) (by simp only[mH,ba];rfl)
theorem N8:Bp tM:=fun xs ys hx hy=>eqL (f:=lz xs ys) xs ys (by have:=(au hx).1;omega) (fun i h h'=>by
 simp only[lz,bw h,if_true,al h,al h',Option.bind_some,dj,JG xs[i] ys[i] ((au hx).2 _ (List.getElem_mem h)) ((au hy).2 _ (List.getElem_mem h')),aa (show i<9223372036854775807 by have:=(au hx).1;omega)]
 first | exact ff (by simp) | exact qe (by simp) | exact ff (by simp[Prod.ext_iff])) (by simp only[lz,ba];rfl)
theorem DF:Bp jR:=by
 intro x y hx hy
 unfold jR
 try simp only[dj,Option.bind_some,N7 x.2.1 y.2.1 hx.2.1 hy.2.1,N8 x.2.2 y.2.2 hx.2.2 hy.2.2]
 repeat' split
 all_goals simp_all[Prod.ext_iff]
theorem Bu:Bp mn:=fun xs ys hx hy=>eqL (f:=fq xs ys) xs ys (by have:=(au hx).1;omega) (fun i h h'=>by
 simp only[fq,bw h,if_true,al h,al h',Option.bind_some,dj,DF xs[i] ys[i] ((au hx).2 _ (List.getElem_mem h)) ((au hy).2 _ (List.getElem_mem h')),aa (show i<9223372036854775807 by have:=(au hx).1;omega)]
 first | exact ff (by simp) | exact qe (by simp) | exact ff (by simp[Prod.ext_iff])) (by simp only[fq,ba];rfl)
theorem N9:Bp pO:=by
 intro x y hx hy
 unfold pO
 try simp only[dj,Option.bind_some]
 repeat' split
 all_goals simp_all[Prod.ext_iff]
theorem Lj:Bp ri:=fun xs ys hx hy=>eqL (f:=jS xs ys) xs ys (by have:=(au hx).1;omega) (fun i h h'=>by
 simp only[jS,bw h,if_true,al h,al h',Option.bind_some,dj,N9 xs[i] ys[i] ((au hx).2 _ (List.getElem_mem h)) ((au hy).2 _ (List.getElem_mem h')),aa (show i<9223372036854775807 by have:=(au hx).1;omega)]
 first | exact ff (by simp) | exact qe (by simp) | exact ff (by simp[Prod.ext_iff])) (by simp only[jS,ba];rfl)
theorem Rg:Bp sw:=by
 intro x y hx hy
 unfold sw
 try simp only[dj,Option.bind_some,Lj x y hx hy]
 repeat' split
 all_goals simp_all[Prod.ext_iff]
theorem Bv:Bp iM:=by
 intro x y hx hy
 unfold iM
 try simp only[dj,Option.bind_some,Rg x.2.1 y.2.1 hx.2.1 hy.2.1]
 repeat' split
 all_goals simp_all[Prod.ext_iff]
theorem Ay:Bp kN:=fun xs ys hx hy=>eqL (f:=eI xs ys) xs ys (by have:=(au hx).1;omega) (fun i h h'=>by
 simp only[eI,bw h,if_true,al h,al h',Option.bind_some,dj,Bv xs[i] ys[i] ((au hx).2 _ (List.getElem_mem h)) ((au hy).2 _ (List.getElem_mem h')),aa (show i<9223372036854775807 by have:=(au hx).1;omega)]
 first | exact ff (by simp) | exact qe (by simp) | exact ff (by simp[Prod.ext_iff])) (by simp only[eI,ba];rfl)
theorem F7:Bp lA:=by
 intro x y hx hy
 unfold lA
 try simp only[dj,Option.bind_some,Bu x.1 y.1 hx.1 hy.1,Ay x.2 y.2 hx.2 hy.2]
 repeat' split
 all_goals simp_all[Prod.ext_iff]
theorem Oa:JD tN:=fun xs l hl h0 h1=>szF xs (eM hl).1 (fun _=>⟨trivial,trivial,trivial,trivial⟩) h0 h1
theorem Ob:JD pP:=by
 intro x l hl h0 h1
 unfold pP
 try simp only[dj]
 obtain ⟨r1,e1,k1⟩:=JE x.1 l hl.1 (by omega) (by omega)
 rw[e1];simp only[Option.bind_some]
 rcases k1 with k1 | ⟨k1,j1,s1⟩
 ·exact ⟨-1,by rw[if_pos (decide_eq_true k1)],.inl (by decide)⟩
 rw[if_neg (by simpa using k1)]
 obtain ⟨r2,e2,k2⟩:=Oa x.2 r1 hl.2 (by omega) (by omega)
 rw[e2];simp only[Option.bind_some]
 rcases k2 with k2 | ⟨k2,j2,s2⟩
 ·exact ⟨-1,by rw[if_pos (decide_eq_true k2)],.inl (by decide)⟩
 rw[if_neg (by simpa using k2)]
 exact ⟨_,rfl,.inr ⟨by omega,by omega,⟨s1,s2⟩⟩⟩
theorem Lk:JD rj:=fun xs l hl h0 h1=>szL (f:=jU xs) xs (eM hl).1 (fun i h l k0 k1=>by
 obtain ⟨r,e,hr⟩:=Ob xs[i] l ((eM hl).2 _ (List.getElem_mem h)) k0 k1
 refine ⟨r,?_,hr⟩
 simp only[jU,bw h,if_true,al h,Option.bind_some,dj,e,aa (show i<9223372036854775807 by have:=(eM hl).1;omega)]
 exact ff (by simp)) (fun l=>by simp only[jU,ba];rfl) h0 h1
theorem H5:JD mK:=by
 intro x l hl h0 h1
 unfold mK
 try simp only[dj]
 obtain ⟨r1,e1,k1⟩:=Lk x.2 l hl.2 (by omega) (by omega)
 rw[e1];simp only[Option.bind_some]
 rcases k1 with k1 | ⟨k1,j1,s1⟩
 ·exact ⟨-1,by rw[if_pos (decide_eq_true k1)],.inl (by decide)⟩
 rw[if_neg (by simpa using k1)]
 exact ⟨_,rfl,.inr ⟨by omega,by omega,⟨trivial,s1⟩⟩⟩
theorem Rh:F0 sx:=by
 intro x hx
 unfold sx
 simp only[dj,Option.bind_some]
theorem Oc:F0 pQ:=by
 intro xs hx
 have hn:=(au hx).1
 unfold pQ
 rw[vA (by omega)];simp only[Option.bind_some]
 rw[toL (f:=lC xs) xs (by omega) (fun ys i h hy=>by simp only[lC,bw h,if_true,al h,al (show i<ys.length by omega),Option.bind_some,dj,Rh xs[i] ((au hx).2 _ (List.getElem_mem h)),aa (show i<9223372036854775807 by omega),Int.toNat_natCast]) (fun ys hy=>by simp only[lC,ba];rfl)]
 rfl
theorem Od:F0 pR:=by
 intro x hx
 unfold pR
 simp only[dj,Option.bind_some,JF x.1 hx.1,Oc x.2 hx.2]
theorem Ll:F0 oh:=by
 intro xs hx
 have hn:=(au hx).1
 unfold oh
 rw[vA (by omega)];simp only[Option.bind_some]
 rw[toL (f:=jV xs) xs (by omega) (fun ys i h hy=>by simp only[jV,bw h,if_true,al h,al (show i<ys.length by omega),Option.bind_some,dj,Od xs[i] ((au hx).2 _ (List.getElem_mem h)),aa (show i<9223372036854775807 by omega),Int.toNat_natCast]) (fun ys hy=>by simp only[jV,ba];rfl)]
 rfl
theorem H6:F0 fv:=by
 intro x hx
 unfold fv
 simp only[dj,Option.bind_some,Ll x.2 hx.2]
theorem Bw:F0 dJ:=by
 intro x hx
 unfold dJ
 simp only[dj,Option.bind_some]
theorem Ri:Bp sy:=by
 intro x y hx hy
 unfold sy
 try simp only[dj,Option.bind_some]
 repeat' split
 all_goals simp_all[Prod.ext_iff]
theorem F8:Bp pS:=fun xs ys hx hy=>eqL (f:=lD xs ys) xs ys (by have:=(au hx).1;omega) (fun i h h'=>by
 simp only[lD,bw h,if_true,al h,al h',Option.bind_some,dj,Ri xs[i] ys[i] ((au hx).2 _ (List.getElem_mem h)) ((au hy).2 _ (List.getElem_mem h')),aa (show i<9223372036854775807 by have:=(au hx).1;omega)]
 first | exact ff (by simp) | exact qe (by simp) | exact ff (by simp[Prod.ext_iff])) (by simp only[lD,ba];rfl)
theorem Oe:Bp pT:=by
 intro x y hx hy
 unfold pT
 try simp only[dj,Option.bind_some,F8 x.1 y.1 hx.1 hy.1,F8 x.2 y.2 hx.2 hy.2]
 repeat' split
 all_goals simp_all[Prod.ext_iff]
theorem H7:Bp gR:=by
 intro x y hx hy
 unfold gR
 try simp only[dj,Option.bind_some,Oe x.2.2 y.2.2 hx.2.2 hy.2.2]
 repeat' split
 all_goals simp_all[Prod.ext_iff]
theorem Bx:Bp dK:=by
 intro x y hx hy
 unfold dK
 try simp only[dj,Option.bind_some]
 repeat' split
 all_goals simp_all[Prod.ext_iff]
theorem Rj:Bp sA:=by
 intro x y hx hy
 unfold sA
 try simp only[dj,Option.bind_some]
 repeat' split
 all_goals simp_all[Prod.ext_iff]
theorem Of:Bp tO:=fun xs ys hx hy=>eqL (f:=lE xs ys) xs ys (by have:=(au hx).1;omega) (fun i h h'=>by
 simp only[lE,bw h,if_true,al h,al h',Option.bind_some,dj,Rj xs[i] ys[i] ((au hx).2 _ (List.getElem_mem h)) ((au hy).2 _ (List.getElem_mem h')),aa (show i<9223372036854775807 by have:=(au hx).1;omega)]
 first | exact ff (by simp) | exact qe (by simp) | exact ff (by simp[Prod.ext_iff])) (by simp only[lE,ba];rfl)
theorem Og:Bp pU:=by
 intro x y hx hy
 unfold pU
 try simp only[dj,Option.bind_some,JG x.1 y.1 hx.1 hy.1,Of x.2 y.2 hx.2 hy.2]
 repeat' split
 all_goals simp_all[Prod.ext_iff]
theorem Lm:Bp rk:=fun xs ys hx hy=>eqL (f:=jW xs ys) xs ys (by have:=(au hx).1;omega) (fun i h h'=>by
 simp only[jW,bw h,if_true,al h,al h',Option.bind_some,dj,Og xs[i] ys[i] ((au hx).2 _ (List.getElem_mem h)) ((au hy).2 _ (List.getElem_mem h')),aa (show i<9223372036854775807 by have:=(au hx).1;omega)]
 first | exact ff (by simp) | exact qe (by simp) | exact ff (by simp[Prod.ext_iff])) (by simp only[jW,ba];rfl)
theorem H8:Bp mL:=by
 intro x y hx hy
 unfold mL
 try simp only[dj,Option.bind_some,Lm x.2 y.2 hx.2 hy.2]
 repeat' split
 all_goals simp_all[Prod.ext_iff]
end D
namespace D
open Go.RowKit
theorem cz {R S:Type} {f:S→Option (Out R S)} (Inv:Nat→S→Prop) (Q:Out R S→Prop) (N:Nat)
  (h: ∀i s,i≤N→Inv i s→(i<N∧ ∃s',f s=some (.nxt s')∧Inv (i+1) s')∨ ∃o,f s=some o∧(∀s',o≠ .nxt s')∧Q o) {s:S} (h0:Inv 0 s) (hN:N<aC): ∃o,ai f aC s=some o∧Q o:=by
 have key: ∀(k i:Nat) (s:S),i≤N→N<i+k→Inv i s→ ∃o,ai f k s=some o∧Q o:=by
  intro k
  induction k with
  | zero=>intro i s h1 h2;omega
  | succ k ih =>
   intro i s h1 h2 hI
   rcases h i s h1 hI with ⟨hi,s',e,hI'⟩ | ⟨o,e,hn,hq⟩
   ·obtain ⟨o,e',hq⟩:=ih (i+1) s' (by omega) (by omega) hI'
    exact ⟨o,by rw[ai,e];exact e',hq⟩
   ·refine ⟨o,?_,hq⟩
    rw[ai,e]
    cases o with
    | nxt s'=>exact absurd rfl (hn s')
    | brk s'=>rfl
    | ret r=>rfl
 exact key aC 0 s (by omega) (by omega) h0
theorem kp {R S:Type} {f:S→Option (Out R S)} (Inv:Nat→S→Prop) (N:Nat) (h: ∀i s,i<N→Inv i s→ ∃s',f s=some (.nxt s')∧Inv (i+1) s') (he: ∀s,Inv N s→f s=some (.brk s)) {s:S} (h0:Inv 0 s) (hN:N<aC): ∃s',ai f aC s=some (.brk s')∧Inv N s':=by
 obtain ⟨o,e,s',rfl,h⟩:=cz (f:=f) Inv (fun o=> ∃s',o= .brk s'∧Inv N s') N (fun i s hi hI=>by
  by_cases h1:i<N
  ·exact .inl ⟨h1,h i s h1 hI⟩
  ·obtain rfl:i=N:=by omega
   exact .inr ⟨_,he s hI,(fun s' e=>by cases e),s,rfl,hI⟩) h0 hN
 exact ⟨s',e,h⟩
theorem aB {R S:Type} {f:S→Option (Out R S)} (st:Nat→S) (N:Nat) (h: ∀i,i<N→f (st i)=some (.nxt (st (i+1)))) (he:f (st N)=some (.brk (st N))) (hN:N<aC):ai f aC (st 0)=some (.brk (st N)):=FZ st N h he hN
theorem mf {k:Nat} (h:k≤9223372036854775807):k<aC:=kI k h
theorem vB {i:Nat} (h:i≤9223372036854775807):IntKind.i64.wrap (i:Int)=(i:Int):=cC (by omega) (by omega)
theorem nS {i:Nat} (h:i≤9223372036854775807):IntKind.i64.wrap ((i:Int) - 1)=(i:Int) - 1:=cC (by omega) (by omega)
theorem aw {α:Type} {b:Nat} {xs ys:List α} (h:(xs.length+ys.length)*b≤140737488355328):cD b xs ys=some (xs++ys):=by unfold cD;rw[if_pos h]
theorem a8 {R S T:Type} {x:Option (Out R S)} {r:R} {kr:R→Option T} {k:S→Option T} (h:x=some (.ret r)):az x kr k=kr r:=by rw[h];rfl
theorem af {R S T:Type} {x:Option (Out R S)} {s:S} {kr:R→Option T} {k:S→Option T} (h:x=some (.brk s)):az x kr k=k s:=by rw[h];rfl
def nth {α:Type} [Inhabited α] (xs:List α) (i:Int):α:=xs.getD i.toNat default
section
variable {α:Type} [Inhabited α] {xs ys:List α}
theorem aj {i:Int} (h0:0≤i) (h1:i<xs.length):ay xs i=some (nth xs i):=by
 unfold ay nth
 rw[if_pos h0]
 have:i.toNat<xs.length:=by omega
 simp[List.getD_eq_getElem?_getD,this]
theorem bP {i:Nat} (h:i<xs.length):nth xs (i:Int)=xs[i]:=by simp[nth,List.getD_eq_getElem?_getD,h]
theorem bj {i:Int} (h0:0≤i) (h1:i<xs.length):nth xs i∈xs:=by
 have:i.toNat<xs.length:=by omega
 have e:nth xs i=xs[i.toNat]:=by simp[nth,List.getD_eq_getElem?_getD,this]
 rw[e];exact List.getElem_mem this
theorem nT {i:Int} (h0:0≤i) (h1:i<xs.length):nth (xs++ys) i=nth xs i:=by
 have:i.toNat<xs.length:=by omega
 simp[nth,List.getD_eq_getElem?_getD,List.getElem?_append_left this]
theorem UW {β:Type} [Inhabited β] {f:α→β} {i:Int} (h0:0≤i) (h1:i<xs.length):nth (xs.map f) i=f (nth xs i):=by
 have:i.toNat<xs.length:=by omega
 simp[nth,List.getD_eq_getElem?_getD,this]
theorem DG {x:α} (h:x∈xs): ∃i:Nat,i<xs.length∧nth xs (i:Int)=x:=by
 obtain ⟨i,hi,rfl⟩:=List.getElem_of_mem h
 exact ⟨i,hi,bP hi⟩
theorem oE {i:Int} {x:α} (h0:0≤i) (h1:i<xs.length):nth (xs.set i.toNat x) i=x:=by
 have:i.toNat<xs.length:=by omega
 simp[nth,List.getD_eq_getElem?_getD,this]
theorem sK {i j:Int} {x:α} (h0:0≤i) (hj:0≤j) (h:i≠j):nth (xs.set i.toNat x) j=nth xs j:=by
 have:i.toNat≠j.toNat:=by omega
 simp[nth,List.getD_eq_getElem?_getD,List.getElem?_set_ne this]
theorem UX (h:xs.length=ys.length) (k: ∀i:Nat,i<xs.length→nth xs (i:Int)=nth ys (i:Int)):xs=ys:=by
 refine List.ext_getElem h fun i h1 h2=>?_
 have:=k i h1
 rwa [bP h1,bP h2] at this
end
section
variable {κ:Type} [DecidableEq κ]
def nbL (l:List κ):Option κ→List κ
 | none=>l
 | some x=>if x∈l then l else l++ [x]
def nbI (l:List κ):Option κ→Int
 | none=> -1
 | some x=>(l.idxOf x:Int)
def nbS (l:List κ) (os:List (Option κ)):List κ:=os.foldl nbL l
def nbR (l:List κ):List (Option κ)→List Int
 | [] =>[]
 | o::os=>nbI l o::nbR (nbL l o) os
theorem vC (l:List κ) (os:List (Option κ)) (o:Option κ):nbS l (os++ [o])=nbL (nbS l os) o:=by simp[nbS]
theorem sL: ∀(l:List κ) (os:List (Option κ)) (o:Option κ),nbR l (os++ [o])=nbR l os++ [nbI (nbS l os) o]
 | l,[],o=>rfl
 | l,p::os,o=>by
  show nbI l p::nbR (nbL l p) (os++ [o])=nbI l p::nbR (nbL l p) os++ [nbI (nbS (nbL l p) os) o]
  rw[sL (nbL l p) os o];rfl
theorem dP: ∀(l:List κ) (os:List (Option κ)),(nbR l os).length=os.length
 | l,[] =>rfl
 | l,o::os=>by show (nbR (nbL l o) os).length+1=_;rw[dP];rfl
theorem Ln (l : List κ) (o : Option κ) : l <+: nbL l o := by
  cases o with
  | none => exact List.prefix_refl l
  | some x => unfold nbL; simp only; split
              · exact List.prefix_refl l
              · exact List.prefix_append l [x]
theorem k8: ∀(l:List κ) (os:List (Option κ)),l <+:nbS l os
 | l,[] =>List.prefix_refl l
 | l,o::os=>(Ln l o).trans (k8 (nbL l o) os)
theorem Oh {l : List κ} {o : Option κ} (h : l.Nodup) : (nbL l o).Nodup := by
  cases o with
  | none => exact h
  | some x => unfold nbL; simp only; split
              · exact h
              · rename_i hx; exact List.nodup_append.2 ⟨h, by simp, by rintro a ha b hb rfl; simp at hb; exact hx (hb ▸ ha)⟩
theorem rR: ∀ {l:List κ} {os:List (Option κ)},l.Nodup→(nbS l os).Nodup
 | l,[],h=>h
 | l,o::os,h=>rR (l:=nbL l o) (os:=os) (Oh h)
theorem Oi {l : List κ} {o : Option κ} {x : κ} : x ∈ nbL l o ↔ x ∈ l ∨ o = some x := by
  cases o with
  | none => simp [nbL]
  | some y => unfold nbL; simp only; split
              · rename_i h; constructor
                · exact .inl
                · rintro (h' | h')
                  · exact h'
                  · simp at h'; exact h' ▸ h
              · simp; exact or_congr Iff.rfl eq_comm
theorem wP: ∀ {l:List κ} {os:List (Option κ)} {x:κ},x∈nbS l os↔x∈l∨some x∈os
 | l,[],x=>by simp[nbS]
 | l,o::os,x=>by
  show x∈nbS (nbL l o) os↔_
  rw[wP,Oi,List.mem_cons,or_assoc]
  exact or_congr Iff.rfl (or_congr eq_comm Iff.rfl)
theorem my {l:List κ} {x:κ} (h:x∈l):nbL l (some x)=l:=by simp[nbL,h]
theorem k9 {l:List κ} {x:κ} (h:x∉l):nbL l (some x)=l++ [x]:=by simp[nbL,h]
theorem pv {l:List κ} {x:κ} (h:x∉l):l.idxOf x=l.length:=List.idxOf_eq_length h
def bfS (nx:κ→List (Option κ)) (first:κ):Nat→List κ
 | 0=>[first]
 | i+1=>match (bfS nx first i)[i]? with
  | some x=>nbS (bfS nx first i) (nx x)
  | none=>bfS nx first i
def bfR (nx:κ→List (Option κ)) (first:κ):Nat→List (List Int)
 | 0=>[]
 | i+1=>bfR nx first i++(match (bfS nx first i)[i]? with
  | some x=>[nbR (bfS nx first i) (nx x)]
  | none=>[])
variable {nx:κ→List (Option κ)} {first:κ}
theorem DH {i:Nat} (h:i<(bfS nx first i).length):bfS nx first (i+1)=nbS (bfS nx first i) (nx ((bfS nx first i)[i])):=by
 rw[bfS,List.getElem?_eq_getElem h]
theorem vD {i:Nat} (h:i<(bfS nx first i).length):bfR nx first (i+1)=bfR nx first i++ [nbR (bfS nx first i) (nx ((bfS nx first i)[i]))]:=by
 rw[bfR,List.getElem?_eq_getElem h]
theorem bm (i:Nat):bfS nx first i <+:bfS nx first (i+1):=by
 rw[bfS]
 split
 ·exact k8 _ _
 ·exact List.prefix_refl _
theorem wQ {i j:Nat} (h:i≤j):bfS nx first i <+:bfS nx first j:=by
 induction h with
 | refl=>exact List.prefix_refl _
 | step _ ih=>exact ih.trans (bm _)
theorem pw: ∀i,(bfS nx first i).Nodup
 | 0=>by simp[bfS]
 | i+1=>by
  rw[bfS]
  split
  ·exact rR (pw i)
  ·exact pw i
theorem lQ {G:κ→Prop} (h0:G first) (h: ∀x,G x→ ∀y,some y∈nx x→G y): ∀i,∀x∈bfS nx first i,G x
 | 0=>by simp[bfS];exact h0
 | i+1=>by
  rw[bfS]
  split
  ·rename_i y hy
   intro x hx
   rcases wP.1 hx with hx | hx
   ·exact lQ h0 h i x hx
   ·exact h y (lQ h0 h i y (List.mem_of_getElem? hy)) x hx
  ·exact lQ h0 h i
theorem F9 (i:Nat):(bfS nx first i)[0]? =some first:=by
 obtain ⟨t,ht⟩:=wQ (nx:=nx) (first:=first) (Nat.zero_le i)
 rw[←ht];rfl
theorem jz: ∀ {i:Nat},(∀j,j<i→j<(bfS nx first j).length)→(bfR nx first i).length=i
 | 0,_=>rfl
 | i+1,h=>by rw[vD (h i (by omega)),List.length_append,jz fun j hj=>h j (by omega)];rfl
def bfE (nx:κ→List (Option κ)) (first:κ) (N:Nat):Prop:=N=(bfS nx first N).length∧ ∀i,i<N→i<(bfS nx first i).length
theorem SL {B:Nat} (hB: ∀i,(bfS nx first i).length≤B): ∃N,N≤B∧bfE nx first N:=by
 have key: ∀m i,i+m=B→(∀j,j<i→j<(bfS nx first j).length)→ ∃N,N≤B∧bfE nx first N:=by
  intro m
  induction m with
  | zero =>
   intro i hi hj
   have h1:=hB i
   have h2:i≤(bfS nx first i).length:=by
    cases i with
    | zero=>omega
    | succ i =>
     have:=hj i (by omega)
     have hp:=(bm (nx:=nx) (first:=first) i).length_le
     omega
   exact ⟨i,by omega,by omega,hj⟩
  | succ m ih =>
   intro i hi hj
   by_cases h:i<(bfS nx first i).length
   ·exact ih (i+1) (by omega) fun j hj'=>by
     by_cases e:j=i
     ·subst e;exact h
     ·exact hj j (by omega)
   ·have h2:i≤(bfS nx first i).length:=by
     cases i with
     | zero=>omega
     | succ i =>
      have:=hj i (by omega)
      have hp:=(bm (nx:=nx) (first:=first) i).length_le
      omega
    exact ⟨i,by omega,by omega,hj⟩
 exact key B 0 (by omega) (by omega)
theorem Rk {N M:Nat} (h:bfE nx first N) (k:bfE nx first M):N=M:=by
 rcases Nat.lt_trichotomy N M with e | e | e
 ·have:=k.2 N e;have:=h.1;omega
 ·exact e
 ·have:=h.2 M e;have:=k.1;omega
end
end D
namespace D
open Go.RowKit
section
variable {α:Type} [Inhabited α]
def smk (mk:α→Nat):List α→Nat
 | [] =>0
 | x::xs=>mk x+smk mk xs
def mkd (mk:α→Nat) (m:α→Nat→α):List α→Nat→List α
 | [],_=>[]
 | x::xs,k=>m x k::mkd mk m xs (k+mk x)
theorem DI (mk:α→Nat): ∀(xs:List α) (x:α),smk mk (xs++ [x])=smk mk xs+mk x
 | [],x=>by simp[smk]
 | y::xs,x=>by simp[smk,DI mk xs x,Nat.add_assoc]
theorem DJ (mk:α→Nat) (m:α→Nat→α): ∀(xs:List α) (x:α) (k:Nat),mkd mk m (xs++ [x]) k=mkd mk m xs k++ [m x (k+smk mk xs)]
 | [],x,k=>by simp[mkd,smk]
 | y::xs,x,k=>by simp[mkd,smk,DJ mk m xs x,Nat.add_assoc]
theorem lf (mk:α→Nat) (m:α→Nat→α): ∀(xs:List α) (k:Nat),(mkd mk m xs k).length=xs.length
 | [],_=>rfl
 | x::xs,k=>by simp[mkd,lf mk m xs]
theorem DK (mk:α→Nat) (m:α→Nat→α): ∀(xs:List α) (k i:Nat),(mkd mk m xs k).take i=mkd mk m (xs.take i) k
 | [],_,_=>by simp[mkd]
 | x::xs,k,0=>by simp[mkd]
 | x::xs,k,i+1=>by simp[mkd,DK mk m xs]
theorem Rl {xs:List α} {k:Nat} (h:k<xs.length):xs.take (k+1)=xs.take k++ [nth xs (k:Int)]:=by
 rw[List.take_succ_eq_append_getElem h,bP h]
theorem WJ (mk:α→Nat) (m:α→Nat→α) (xs:List α) (k:Nat) {i:Nat} (h:i<xs.length):nth (mkd mk m xs k) (i:Int)=m (nth xs (i:Int)) (k+smk mk (xs.take i)):=by
 have h':i<(mkd mk m xs k).length:=by rw[lf];exact h
 have e:=Rl h'
 rw[DK,DK,Rl h,DJ] at e
 have:=List.append_cancel_left e
 simpa using this.symm
theorem DL (mk:α→Nat) {xs:List α} {i:Nat} (h:i<xs.length):smk mk (xs.take (i+1))=smk mk (xs.take i)+mk (nth xs (i:Int)):=by rw[Rl h,DI]
theorem Oj (mk:α→Nat): ∀(xs:List α) (i:Nat),smk mk (xs.take i)≤smk mk xs
 | [],_=>by simp
 | x::xs,0=>by simp[smk]
 | x::xs,i+1=>by simp[smk];exact Oj mk xs i
theorem iH (mk:α→Nat) {B:Nat} : ∀(xs:List α),(∀x∈xs,mk x≤B)→smk mk xs≤xs.length*B
 | [],_=>by simp[smk]
 | x::xs,h=>by
  have h1:=iH mk xs fun y hy=>h y (by simp[hy])
  have h2:=h x (by simp)
  simp only[smk,List.length_cons,Nat.add_mul,Nat.one_mul];omega
theorem UY {xs ys:List α} {i:Nat} (hi:i<xs.length) (hl:ys.length=i) (x:α):(ys++xs.drop i).set i x=ys++ [x] ++xs.drop (i+1):=by
 rw[List.set_append_right _ _ (by omega),hl,Nat.sub_self,List.drop_eq_getElem_cons hi,List.set_cons_zero,List.append_assoc];rfl
theorem DM {R:Type} {f:List α×Int×Int→Option (Out R (List α×Int×Int))} (xs:List α) (mk:α→Nat) (m:α→Nat→α) (hN:xs.length≤9223372036854775807) {k:Nat} (hk:k+smk mk xs≤4611686018427387904)
  (hstep: ∀ys (i k:Nat),i<xs.length→ys.length=xs.length→nth ys (i:Int)=nth xs (i:Int)→k+mk (nth xs (i:Int))≤4611686018427387904→f (ys,(k:Int),(i:Int))=some (.nxt (ys.set i (m (nth xs (i:Int)) k),((k+mk (nth xs (i:Int)):Nat):Int),((i+1:Nat):Int))))
  (hend: ∀ys (k:Nat),ys.length=xs.length→f (ys,(k:Int),(xs.length:Int))=some (.brk (ys,(k:Int),(xs.length:Int)))) :
  ai f aC (xs,(k:Int),0)=some (.brk (mkd mk m xs k,((k+smk mk xs:Nat):Int),(xs.length:Int))):=by
 have hlen: ∀i,i≤xs.length→(mkd mk m (xs.take i) k++xs.drop i).length=xs.length:=fun i hi=>by
  rw[List.length_append,lf,List.length_take,List.length_drop];omega
 have:=aB (f:=f) (fun i=>(mkd mk m (xs.take i) k++xs.drop i,((k+smk mk (xs.take i):Nat):Int),(i:Int))) xs.length (fun i hi=>by
  have hl:(mkd mk m (xs.take i) k).length=i:=by rw[lf,List.length_take];omega
  have hle:=Oj mk xs (i+1)
  rw[DL mk hi] at hle
  rw[hstep _ i (k+smk mk (xs.take i)) hi (hlen i (by omega)) ?_ (by omega),UY hi hl,Rl hi,DJ,DI,Nat.add_assoc]
  have h':i<(mkd mk m (xs.take i) k++xs.drop i).length:=by rw[hlen i (by omega)];exact hi
  rw[bP h',bP hi,List.getElem_append_right (by omega)]
  simp[hl]) (by
  have:=hend (mkd mk m (xs.take xs.length) k++xs.drop xs.length) (k+smk mk (xs.take xs.length)) (hlen _ (Nat.le_refl _))
  exact this) (mf hN)
 simpa [mkd,smk] using this
theorem Yd {f:Int×Int→Option (Out Int (Int×Int))} (xs:List α) (mk:α→Nat) (m:α→Nat→α) (hN:xs.length≤9223372036854775807) {k:Nat} (hk:k+smk mk xs≤4611686018427387904)
  (hstep: ∀(i k':Nat),i<xs.length→nth (mkd mk m xs k) (i:Int)=m (nth xs (i:Int)) k'→k'+mk (nth xs (i:Int))≤4611686018427387904→f ((k':Int),(i:Int))=some (.nxt (((k'+mk (nth xs (i:Int)):Nat):Int),((i+1:Nat):Int))))
  (hend: ∀(k':Nat),f ((k':Int),(xs.length:Int))=some (.brk ((k':Int),(xs.length:Int)))) :
  ai f aC ((k:Int),0)=some (.brk (((k+smk mk xs:Nat):Int),(xs.length:Int))):=by
 have:=aB (f:=f) (fun i=>(((k+smk mk (xs.take i):Nat):Int),(i:Int))) xs.length (fun i hi=>by
  have hle:=Oj mk xs (i+1)
  rw[DL mk hi] at hle
  rw[hstep i (k+smk mk (xs.take i)) hi (WJ mk m xs k hi) (by omega),DL mk hi,Nat.add_assoc]) (hend _) (mf hN)
 simpa [smk] using this
end
end D
set_option synthInstance.maxSize 20000
set_option synthInstance.maxHeartbeats 2000000
namespace D
open Go.RowKit
theorem kt {α:Type} {xs:List α} {i:Nat} {x:α} (h:i<xs.length):ay (xs.set i x) (i:Int)=some x:=by
 rw[al (by rw[List.length_set];exact h)];simp
theorem Ye {n:Nat} :decide ((n:Int)<0)=false:=by simp only[decide_eq_false_iff_not];omega
def ku (x:Int):Nat:=1
def JH (x:Int) (k:Nat):Int:=((k:Nat):Int)
theorem Ol (xs:List Int) (hx:Data.sm xs):smk ku xs≤1048576*1:=by
 obtain ⟨h1,h2⟩:=au hx
 have b:=iH ku (B:=1) xs (fun x hx=>by
  simp[ku])
 exact Nat.le_trans b (Nat.mul_le_mul_right _ h1)
theorem Om (xs:List Int) (hx:Data.sm xs) {k:Nat} (hk:k+smk ku xs≤4611686018427387904):lV xs (k:Int)=some (((k+smk ku xs:Nat):Int),mkd ku JH xs k):=by
 obtain ⟨hN,hs⟩:=au hx
 unfold lV
 rw[af (DM (f:=jT) xs ku JH (by omega) hk (fun ys i k hi hl he hk=>by
  have hz0:=hs _ (bj (xs:=xs) (i:=(i:Int)) (by omega) (by omega))
  unfold jT
  have hi':i<ys.length:=by omega
  generalize hz:nth xs (i:Int)=z at *
  have hk':k+(1)≤4611686018427387904:=hk
  simp only
  rw[if_pos (by simp;omega),aj (by omega) (by omega),he]
  simp only[Option.bind_some,Int.toNat_natCast,kt hi',List.set_set,aa (show i<9223372036854775807 by omega),aa (show k<9223372036854775807 by omega)]
  have e:k+ku z=k+1:=by unfold ku;omega
  rw[e];rfl) (fun ys k hl=>by
  unfold jT
  simp only
  rw[if_neg (by simp;omega)]))]
def c7 (x:Int×Int):Nat:=1+1
def uf (x:Int×Int) (k:Nat):Int×Int:=(((k:Nat):Int),((k+1:Nat):Int))
theorem JI (xs:List (Int×Int)) (hx:Data.sm xs):smk c7 xs≤1048576*2:=by
 obtain ⟨h1,h2⟩:=au hx
 have b:=iH c7 (B:=2) xs (fun x hx=>by
  simp[c7])
 exact Nat.le_trans b (Nat.mul_le_mul_right _ h1)
theorem JJ (xs:List (Int×Int)) (hx:Data.sm xs) {k:Nat} (hk:k+smk c7 xs≤4611686018427387904):jX xs (k:Int)=some (((k+smk c7 xs:Nat):Int),mkd c7 uf xs k):=by
 obtain ⟨hN,hs⟩:=au hx
 unfold jX
 rw[af (DM (f:=iR) xs c7 uf (by omega) hk (fun ys i k hi hl he hk=>by
  have hz0:=hs _ (bj (xs:=xs) (i:=(i:Int)) (by omega) (by omega))
  unfold iR
  have hi':i<ys.length:=by omega
  generalize hz:nth xs (i:Int)=z at *
  have hk':k+(1+1)≤4611686018427387904:=hk
  simp only
  rw[if_pos (by simp;omega),aj (by omega) (by omega),he]
  simp only[Option.bind_some,Int.toNat_natCast,kt hi',List.set_set,aa (show i<9223372036854775807 by omega),aa (show k<9223372036854775807 by omega),aa (show k+1<9223372036854775807 by omega)]
  have e:k+c7 z=k+1+1:=by unfold c7;omega
  rw[e];rfl) (fun ys k hl=>by
  unfold iR
  simp only
  rw[if_neg (by simp;omega)]))]
theorem JK (xs:List (Int×Int)) (hx:Data.sm xs) {k:Nat} (hk:k+smk c7 xs≤4611686018427387904):jY (mkd c7 uf xs k) (k:Int)=some ((k+smk c7 xs:Nat):Int):=by
 obtain ⟨hN,hs⟩:=au hx
 unfold jY
 rw[af (Yd (f:=iS _) xs c7 uf (by omega) hk (fun i k' hi he hk=>by
  have hz0:=hs _ (bj (xs:=xs) (i:=(i:Int)) (by omega) (by omega))
  unfold iS
  generalize hz:nth xs (i:Int)=z at *
  have hk':k'+(1+1)≤4611686018427387904:=hk
  simp only
  rw[if_pos (by simp[lf];omega),aj (by omega) (by rw[lf];omega),he]
  simp only[uf,Option.bind_some,bne_self_eq_false,Bool.false_eq_true,if_false,Ye,aa (show i<9223372036854775807 by omega),aa (show k'<9223372036854775807 by omega),aa (show k'+1<9223372036854775807 by omega)]
  have e:k'+c7 z=k'+1+1:=by unfold c7;omega
  rw[e]) (fun k'=>by
  unfold iS
  simp only
  rw[if_neg (by simp[lf])]))]
def jj (x:Bool):Nat:=1
def H9 (x:Bool) (k:Nat):Bool:=((Int.tmod ((k:Nat):Int) 3)==0)
theorem Rm (xs:List Bool) (hx:Data.sm xs):smk jj xs≤1048576*1:=by
 obtain ⟨h1,h2⟩:=au hx
 have b:=iH jj (B:=1) xs (fun x hx=>by
  simp[jj])
 exact Nat.le_trans b (Nat.mul_le_mul_right _ h1)
theorem Rn (xs:List Bool) (hx:Data.sm xs) {k:Nat} (hk:k+smk jj xs≤4611686018427387904):mI xs (k:Int)=some (((k+smk jj xs:Nat):Int),mkd jj H9 xs k):=by
 obtain ⟨hN,hs⟩:=au hx
 unfold mI
 rw[af (DM (f:=iN) xs jj H9 (by omega) hk (fun ys i k hi hl he hk=>by
  have hz0:=hs _ (bj (xs:=xs) (i:=(i:Int)) (by omega) (by omega))
  unfold iN
  have hi':i<ys.length:=by omega
  generalize hz:nth xs (i:Int)=z at *
  have hk':k+(1)≤4611686018427387904:=hk
  simp only
  rw[if_pos (by simp;omega),aj (by omega) (by omega),he]
  simp only[Option.bind_some,Int.toNat_natCast,kt hi',List.set_set,aa (show i<9223372036854775807 by omega),aa (show k<9223372036854775807 by omega)]
  have e:k+jj z=k+1:=by unfold jj;omega
  rw[e];rfl) (fun ys k hl=>by
  unfold iN
  simp only
  rw[if_neg (by simp;omega)]))]
def lg (x:List Int):Nat:=smk ku (x)
def Ia (x:List Int) (k:Nat):List Int:=mkd ku JH x k
theorem Ro (xs:List (List Int)) (hx:Data.sm xs):smk lg xs≤1048576*1048576:=by
 obtain ⟨h1,h2⟩:=au hx
 have b:=iH lg (B:=1048576) xs (fun x hx=>by
  have hs:=h2 x hx
  have q0:=Ol (x) hs
  unfold lg;omega)
 exact Nat.le_trans b (Nat.mul_le_mul_right _ h1)
theorem Rp (xs:List (List Int)) (hx:Data.sm xs) {k:Nat} (hk:k+smk lg xs≤4611686018427387904):mJ xs (k:Int)=some (((k+smk lg xs:Nat):Int),mkd lg Ia xs k):=by
 obtain ⟨hN,hs⟩:=au hx
 unfold mJ
 rw[af (DM (f:=iO) xs lg Ia (by omega) hk (fun ys i k hi hl he hk=>by
  have hz0:=hs _ (bj (xs:=xs) (i:=(i:Int)) (by omega) (by omega))
  unfold iO
  have hi':i<ys.length:=by omega
  generalize hz:nth xs (i:Int)=z at *
  have hk':k+(smk ku (z))≤4611686018427387904:=hk
  have m0:=Om (z) hz0 (k:=k) (by omega)
  simp only
  rw[if_pos (by simp;omega),aj (by omega) (by omega),he]
  simp only[Option.bind_some,Int.toNat_natCast,kt hi',List.set_set,aa (show i<9223372036854775807 by omega),m0]
  have e:k+lg z=k+smk ku (z):=by unfold lg;omega
  rw[e];rfl) (fun ys k hl=>by
  unfold iO
  simp only
  rw[if_neg (by simp;omega)]))]
def bW (x:Int×(List Bool)×(List (List Int))):Nat:=1+smk jj (x.2.1)+smk lg (x.2.2)
def rS (x:Int×(List Bool)×(List (List Int))) (k:Nat):Int×(List Bool)×(List (List Int)):=(((k:Nat):Int),mkd jj H9 (x.2.1) (k+1),mkd lg Ia (x.2.2) (k+1+smk jj (x.2.1)))
theorem DN (xs:List (Int×(List Bool)×(List (List Int)))) (hx:Data.sm xs):smk bW xs≤1048576*1099512676353:=by
 obtain ⟨h1,h2⟩:=au hx
 have b:=iH bW (B:=1099512676353) xs (fun x hx=>by
  have hs:=h2 x hx
  have q0:=Rm (x.2.1) hs.2.1
  have q1:=Ro (x.2.2) hs.2.2
  unfold bW;omega)
 exact Nat.le_trans b (Nat.mul_le_mul_right _ h1)
theorem DO (xs:List (Int×(List Bool)×(List (List Int)))) (hx:Data.sm xs) {k:Nat} (hk:k+smk bW xs≤4611686018427387904):fQ xs (k:Int)=some (((k+smk bW xs:Nat):Int),mkd bW rS xs k):=by
 obtain ⟨hN,hs⟩:=au hx
 unfold fQ
 rw[af (DM (f:=dR) xs bW rS (by omega) hk (fun ys i k hi hl he hk=>by
  have hz0:=hs _ (bj (xs:=xs) (i:=(i:Int)) (by omega) (by omega))
  unfold dR
  have hi':i<ys.length:=by omega
  generalize hz:nth xs (i:Int)=z at *
  have hk':k+(1+smk jj (z.2.1)+smk lg (z.2.2))≤4611686018427387904:=hk
  have m0:=Rn (z.2.1) hz0.2.1 (k:=k+1) (by omega)
  have m1:=Rp (z.2.2) hz0.2.2 (k:=k+1+smk jj (z.2.1)) (by omega)
  simp only
  rw[if_pos (by simp;omega),aj (by omega) (by omega),he]
  simp only[Option.bind_some,Int.toNat_natCast,kt hi',List.set_set,aa (show i<9223372036854775807 by omega),aa (show k<9223372036854775807 by omega),m0,m1]
  have e:k+bW z=k+1+smk jj (z.2.1)+smk lg (z.2.2):=by unfold bW;omega
  rw[e];rfl) (fun ys k hl=>by
  unfold dR
  simp only
  rw[if_neg (by simp;omega)]))]
def fF (x:Int×Int×Int×Int):Nat:=1+1+1+1
def DP (x:Int×Int×Int×Int) (k:Nat):Int×Int×Int×Int:=(((k:Nat):Int),((k+1:Nat):Int),((k+1+1:Nat):Int),((k+1+1+1:Nat):Int))
theorem On (xs:List (Int×Int×Int×Int)) (hx:Data.sm xs):smk fF xs≤1048576*4:=by
 obtain ⟨h1,h2⟩:=au hx
 have b:=iH fF (B:=4) xs (fun x hx=>by
  simp[fF])
 exact Nat.le_trans b (Nat.mul_le_mul_right _ h1)
theorem Oo (xs:List (Int×Int×Int×Int)) (hx:Data.sm xs) {k:Nat} (hk:k+smk fF xs≤4611686018427387904):lB xs (k:Int)=some (((k+smk fF xs:Nat):Int),mkd fF DP xs k):=by
 obtain ⟨hN,hs⟩:=au hx
 unfold lB
 rw[af (DM (f:=gQ) xs fF DP (by omega) hk (fun ys i k hi hl he hk=>by
  have hz0:=hs _ (bj (xs:=xs) (i:=(i:Int)) (by omega) (by omega))
  unfold gQ
  have hi':i<ys.length:=by omega
  generalize hz:nth xs (i:Int)=z at *
  have hk':k+(1+1+1+1)≤4611686018427387904:=hk
  simp only
  rw[if_pos (by simp;omega),aj (by omega) (by omega),he]
  simp only[Option.bind_some,Int.toNat_natCast,kt hi',List.set_set,aa (show i<9223372036854775807 by omega),aa (show k<9223372036854775807 by omega),aa (show k+1<9223372036854775807 by omega),aa (show k+1+1<9223372036854775807 by omega),aa (show k+1+1+1<9223372036854775807 by omega)]
  have e:k+fF z=k+1+1+1+1:=by unfold fF;omega
  rw[e];rfl) (fun ys k hl=>by
  unfold gQ
  simp only
  rw[if_neg (by simp;omega)]))]
def bZ (x:Int×((List (Int×Int×Int×Int)))×Int):Nat:=1+smk fF (x.2.1)+1
def qf (x:Int×((List (Int×Int×Int×Int)))×Int) (k:Nat):Int×((List (Int×Int×Int×Int)))×Int:=(((k:Nat):Int),mkd fF DP (x.2.1) (k+1),((k+1+smk fF (x.2.1):Nat):Int))
theorem By (xs:List (Int×((List (Int×Int×Int×Int)))×Int)) (hx:Data.sm xs):smk bZ xs≤1048576*4194306:=by
 obtain ⟨h1,h2⟩:=au hx
 have b:=iH bZ (B:=4194306) xs (fun x hx=>by
  have hs:=h2 x hx
  have q0:=On (x.2.1) hs.2.1
  unfold bZ;omega)
 exact Nat.le_trans b (Nat.mul_le_mul_right _ h1)
theorem Bz (xs:List (Int×((List (Int×Int×Int×Int)))×Int)) (hx:Data.sm xs) {k:Nat} (hk:k+smk bZ xs≤4611686018427387904):fu xs (k:Int)=some (((k+smk bZ xs:Nat):Int),mkd bZ qf xs k):=by
 obtain ⟨hN,hs⟩:=au hx
 unfold fu
 rw[af (DM (f:=dB) xs bZ qf (by omega) hk (fun ys i k hi hl he hk=>by
  have hz0:=hs _ (bj (xs:=xs) (i:=(i:Int)) (by omega) (by omega))
  unfold dB
  have hi':i<ys.length:=by omega
  generalize hz:nth xs (i:Int)=z at *
  have hk':k+(1+smk fF (z.2.1)+1)≤4611686018427387904:=hk
  have m0:=Oo (z.2.1) hz0.2.1 (k:=k+1) (by omega)
  simp only
  rw[if_pos (by simp;omega),aj (by omega) (by omega),he]
  simp only[Option.bind_some,Int.toNat_natCast,kt hi',List.set_set,aa (show i<9223372036854775807 by omega),aa (show k<9223372036854775807 by omega),aa (show k+1+smk fF (z.2.1)<9223372036854775807 by omega),m0]
  have e:k+bZ z=k+1+smk fF (z.2.1)+1:=by unfold bZ;omega
  rw[e];rfl) (fun ys k hl=>by
  unfold dB
  simp only
  rw[if_neg (by simp;omega)]))]
def lh (x:Int×Int×Int×Int):Nat:=1+1+1+1
def Ib (x:Int×Int×Int×Int) (k:Nat):Int×Int×Int×Int:=(((k:Nat):Int),((k+1:Nat):Int),((k+1+1:Nat):Int),((k+1+1+1:Nat):Int))
theorem Rq (xs:List (Int×Int×Int×Int)) (hx:Data.sm xs):smk lh xs≤1048576*4:=by
 obtain ⟨h1,h2⟩:=au hx
 have b:=iH lh (B:=4) xs (fun x hx=>by
  simp[lh])
 exact Nat.le_trans b (Nat.mul_le_mul_right _ h1)
theorem Rr (xs:List (Int×Int×Int×Int)) (hx:Data.sm xs) {k:Nat} (hk:k+smk lh xs≤4611686018427387904):mM xs (k:Int)=some (((k+smk lh xs:Nat):Int),mkd lh Ib xs k):=by
 obtain ⟨hN,hs⟩:=au hx
 unfold mM
 rw[af (DM (f:=iQ) xs lh Ib (by omega) hk (fun ys i k hi hl he hk=>by
  have hz0:=hs _ (bj (xs:=xs) (i:=(i:Int)) (by omega) (by omega))
  unfold iQ
  have hi':i<ys.length:=by omega
  generalize hz:nth xs (i:Int)=z at *
  have hk':k+(1+1+1+1)≤4611686018427387904:=hk
  simp only
  rw[if_pos (by simp;omega),aj (by omega) (by omega),he]
  simp only[Option.bind_some,Int.toNat_natCast,kt hi',List.set_set,aa (show i<9223372036854775807 by omega),aa (show k<9223372036854775807 by omega),aa (show k+1<9223372036854775807 by omega),aa (show k+1+1<9223372036854775807 by omega),aa (show k+1+1+1<9223372036854775807 by omega)]
  have e:k+lh z=k+1+1+1+1:=by unfold lh;omega
  rw[e];rfl) (fun ys k hl=>by
  unfold iQ
  simp only
  rw[if_neg (by simp;omega)]))]
def ja (x:(List Int)×(List (Int×Int×Int×Int))):Nat:=smk ku (x.1)+smk lh (x.2)
def DQ (x:(List Int)×(List (Int×Int×Int×Int))) (k:Nat):(List Int)×(List (Int×Int×Int×Int)):=(mkd ku JH (x.1) (k),mkd lh Ib (x.2) (k+smk ku (x.1)))
theorem Oq (xs:List ((List Int)×(List (Int×Int×Int×Int)))) (hx:Data.sm xs):smk ja xs≤1048576*5242880:=by
 obtain ⟨h1,h2⟩:=au hx
 have b:=iH ja (B:=5242880) xs (fun x hx=>by
  have hs:=h2 x hx
  have q0:=Ol (x.1) hs.1
  have q1:=Rq (x.2) hs.2
  unfold ja;omega)
 exact Nat.le_trans b (Nat.mul_le_mul_right _ h1)
theorem Ot (xs:List ((List Int)×(List (Int×Int×Int×Int)))) (hx:Data.sm xs) {k:Nat} (hk:k+smk ja xs≤4611686018427387904):lF xs (k:Int)=some (((k+smk ja xs:Nat):Int),mkd ja DQ xs k):=by
 obtain ⟨hN,hs⟩:=au hx
 unfold lF
 rw[af (DM (f:=gS) xs ja DQ (by omega) hk (fun ys i k hi hl he hk=>by
  have hz0:=hs _ (bj (xs:=xs) (i:=(i:Int)) (by omega) (by omega))
  unfold gS
  have hi':i<ys.length:=by omega
  generalize hz:nth xs (i:Int)=z at *
  have hk':k+(smk ku (z.1)+smk lh (z.2))≤4611686018427387904:=hk
  have m0:=Om (z.1) hz0.1 (k:=k) (by omega)
  have m1:=Rr (z.2) hz0.2 (k:=k+smk ku (z.1)) (by omega)
  simp only
  rw[if_pos (by simp;omega),aj (by omega) (by omega),he]
  simp only[Option.bind_some,Int.toNat_natCast,kt hi',List.set_set,aa (show i<9223372036854775807 by omega),m0,m1]
  have e:k+ja z=k+smk ku (z.1)+smk lh (z.2):=by unfold ja;omega
  rw[e];rfl) (fun ys k hl=>by
  unfold gS
  simp only
  rw[if_neg (by simp;omega)]))]
def jA (x:(List (Int×(List Bool)×(List (List Int))))×(List (Int×((List (Int×Int×Int×Int)))×Int))):Nat:=smk bW (x.1)+smk bZ (x.2)
def Lo (x:(List (Int×(List Bool)×(List (List Int))))×(List (Int×((List (Int×Int×Int×Int)))×Int))) (k:Nat):(List (Int×(List Bool)×(List (List Int))))×(List (Int×((List (Int×Int×Int×Int)))×Int)):=(mkd bW rS (x.1) (k),mkd bZ qf (x.2) (k+smk bW (x.1)))
theorem Ic (x:(List (Int×(List Bool)×(List (List Int))))×(List (Int×((List (Int×Int×Int×Int)))×Int))) (hx:Data.sm x):jA x≤1152927002168131584:=by
 have q0:=DN (x.1) hx.1
 have q1:=By (x.2) hx.2
 unfold jA;omega
theorem Ie (x:(List (Int×(List Bool)×(List (List Int))))×(List (Int×((List (Int×Int×Int×Int)))×Int))) (hx:Data.sm x) {k:Nat} (hk:k+jA x≤4611686018427387904):iP x (k:Int)=some (((k+jA x:Nat):Int),Lo x k):=by
 unfold jA at hk
 have m0:=DO (x.1) hx.1 (k:=k) (by omega)
 have m1:=Bz (x.2) hx.2 (k:=k+smk bW (x.1)) (by omega)
 unfold iP
 simp only[dj,Option.bind_some,m0,m1]
 have e:k+jA x=k+smk bW (x.1)+smk bZ (x.2):=by unfold jA;omega
 rw[e];rfl
def jk (x:(List (Int×Int))×(List (Int×Int))):Nat:=smk c7 (x.1)+smk c7 (x.2)
def Az (x:(List (Int×Int))×(List (Int×Int))) (k:Nat):(List (Int×Int))×(List (Int×Int)):=(mkd c7 uf (x.1) (k),mkd c7 uf (x.2) (k+smk c7 (x.1)))
theorem Rs (x:(List (Int×Int))×(List (Int×Int))) (hx:Data.sm x):jk x≤4194304:=by
 have q0:=JI (x.1) hx.1
 have q1:=JI (x.2) hx.2
 unfold jk;omega
theorem Rt (x:(List (Int×Int))×(List (Int×Int))) (hx:Data.sm x) {k:Nat} (hk:k+jk x≤4611686018427387904):mN x (k:Int)=some (((k+jk x:Nat):Int),Az x k):=by
 unfold jk at hk
 have m0:=JJ (x.1) hx.1 (k:=k) (by omega)
 have m1:=JJ (x.2) hx.2 (k:=k+smk c7 (x.1)) (by omega)
 unfold mN
 simp only[dj,Option.bind_some,m0,m1]
 have e:k+jk x=k+smk c7 (x.1)+smk c7 (x.2):=by unfold jk;omega
 rw[e];rfl
theorem Ru (x:(List (Int×Int))×(List (Int×Int))) (hx:Data.sm x) {k:Nat} (hk:k+jk x≤4611686018427387904):mO (Az x k) (k:Int)=some ((k+jk x:Nat):Int):=by
 unfold jk at hk
 have m0:=JK (x.1) hx.1 (k:=k) (by omega)
 have m1:=JK (x.2) hx.2 (k:=k+smk c7 (x.1)) (by omega)
 unfold mO Az
 simp only[dj,Option.bind_some,Bool.false_eq_true,if_false,Ye,m0,m1]
 have e:k+jk x=k+smk c7 (x.1)+smk c7 (x.2):=by unfold jk;omega
 rw[e]
def fg (x:Int×Bool×((List (Int×Int))×(List (Int×Int)))):Nat:=jk (x.2.2)
def vE (x:Int×Bool×((List (Int×Int))×(List (Int×Int)))) (k:Nat):Int×Bool×((List (Int×Int))×(List (Int×Int))):=(x.1,x.2.1,Az (x.2.2) (k))
theorem Lp (x:Int×Bool×((List (Int×Int))×(List (Int×Int)))) (hx:Data.sm x):fg x≤4194304:=by
 have q0:=Rs (x.2.2) hx.2.2
 unfold fg;omega
theorem Lq (x:Int×Bool×((List (Int×Int))×(List (Int×Int)))) (hx:Data.sm x) {k:Nat} (hk:k+fg x≤4611686018427387904):gi x (k:Int)=some (((k+fg x:Nat):Int),vE x k):=by
 unfold fg at hk
 have m0:=Rt (x.2.2) hx.2.2 (k:=k) (by omega)
 unfold gi
 simp only[dj,Option.bind_some,m0]
 have e:k+fg x=k+jk (x.2.2):=by unfold fg;omega
 rw[e];rfl
theorem Lr (x:Int×Bool×((List (Int×Int))×(List (Int×Int)))) (hx:Data.sm x) {k:Nat} (hk:k+fg x≤4611686018427387904):eQ (vE x k) (k:Int)=some ((k+fg x:Nat):Int):=by
 unfold fg at hk
 have m0:=Ru (x.2.2) hx.2.2 (k:=k) (by omega)
 unfold eQ vE
 simp only[dj,Option.bind_some,Bool.false_eq_true,if_false,Ye,m0]
 have e:k+fg x=k+jk (x.2.2):=by unfold fg;omega
 rw[e]
def ky (x:Int×(List ((List Int)×(List (Int×Int×Int×Int))))):Nat:=smk ja (x.2)
def Ou (x:Int×(List ((List Int)×(List (Int×Int×Int×Int))))) (k:Nat):Int×(List ((List Int)×(List (Int×Int×Int×Int)))):=(x.1,mkd ja DQ (x.2) (k))
theorem Ls (x:Int×(List ((List Int)×(List (Int×Int×Int×Int))))) (hx:Data.sm x):ky x≤5497558138880:=by
 have q0:=Oq (x.2) hx.2
 unfold ky;omega
theorem Lt (x:Int×(List ((List Int)×(List (Int×Int×Int×Int))))) (hx:Data.sm x) {k:Nat} (hk:k+ky x≤4611686018427387904):gh x (k:Int)=some (((k+ky x:Nat):Int),Ou x k):=by
 unfold ky at hk
 have m0:=Ot (x.2) hx.2 (k:=k) (by omega)
 unfold gh
 simp only[dj,Option.bind_some,m0]
 have e:k+ky x=k+smk ja (x.2):=by unfold ky;omega
 rw[e];rfl
end D
namespace D
open Go.RowKit
abbrev AutT:=Int×(List Bool)×(List (List Int))
structure VA (a:AutT) (n:Nat):Prop where
 len:a.2.1.length=n
 start:0≤a.1∧a.1<n
 nlen:a.2.2.length=n
 row: ∀r∈a.2.2,r.length=9
 ent: ∀r∈a.2.2,∀t∈r,-1≤t∧t<n
def mv (a:AutT) (s:Int) (k:Nat):Int:=nth (nth a.2.2 s) k
theorem Pp (x l h:Int):c8 x l h=some (decide (l≤x∧x≤h)):=by
 unfold c8
 by_cases c:l≤x
 ·simp[c]
 ·have: ¬l≤x∧True:=⟨c,trivial⟩
  simp[c]
theorem If (x l h:Int):bF x l h=some (decide (l≤x∧x≤h)):=by
 unfold bF
 by_cases c:l≤x
 ·simp[c]
 ·simp[c]
theorem scan {α R:Type} [Inhabited α] {f:Int→Option (Out R Int)} (xs:List α) (p:α→Prop) [DecidablePred p] (r:R) (hN:xs.length≤9223372036854775807)
  (h: ∀i:Nat,i<xs.length→f (i:Int)=some (if p (nth xs i) then .nxt ((i+1:Nat):Int) else .ret r)) (he:f (xs.length:Int)=some (.brk (xs.length:Int))) :
  (ai f aC 0=some (.brk (xs.length:Int))∧ ∀x∈xs,p x)∨(ai f aC 0=some (.ret r)∧ ¬ ∀x∈xs,p x):=by
 obtain ⟨o,e,hq⟩:=cz (f:=f) (fun i s=>s=(i:Int)∧ ∀j:Nat,j<i→p (nth xs j)) (fun o=>(o= .brk (xs.length:Int)∧ ∀x∈xs,p x)∨(o= .ret r∧ ¬ ∀x∈xs,p x)) xs.length (s:=0) (by
  rintro i s hi ⟨rfl,hp⟩
  by_cases hl:i<xs.length
  ·by_cases c:p (nth xs i)
   ·refine .inl ⟨hl,_,by rw[h i hl,if_pos c],rfl,fun j hj=>?_⟩
    by_cases e:j=i
    ·subst e;exact c
    ·exact hp j (by omega)
   ·refine .inr ⟨_,by rw[h i hl,if_neg c],(fun s' e=>by cases e),.inr ⟨rfl,fun hx=>c (hx _ (bj (by omega) (by omega)))⟩⟩
  ·obtain rfl:i=xs.length:=by omega
   refine .inr ⟨_,he,(fun s' e=>by cases e),.inl ⟨rfl,fun x hx=>?_⟩⟩
   obtain ⟨j,hj,rfl⟩:=DG hx
   exact hp j hj) ⟨rfl,by omega⟩ (mf hN)
 rcases hq with ⟨rfl,hq⟩ | ⟨rfl,hq⟩
 ·exact .inl ⟨e,hq⟩
 ·exact .inr ⟨e,hq⟩
section
variable {a:AutT} {n:Nat} (V:VA a n)
include V
theorem VA.pos:0<n:=by have:=V.start;omega
theorem VA.rowAt {s:Int} (h0:0≤s) (h1:s<n):(nth a.2.2 s).length=9:=V.row _ (bj h0 (by rw[V.nlen];exact h1))
theorem VA.mv {s:Int} {k:Nat} (h0:0≤s) (h1:s<n) (hk:k<9): -1≤mv a s k∧mv a s k<n:=
 V.ent _ (bj h0 (by rw[V.nlen];exact h1)) _ (bj (by omega) (by rw[V.rowAt h0 h1];omega))
theorem VA.get {s:Int} (h0:0≤s) (h1:s<n):ay a.2.2 s=some (nth a.2.2 s):=aj h0 (by rw[V.nlen];exact h1)
theorem VA.get2 {s:Int} {k:Nat} (h0:0≤s) (h1:s<n) (hk:k<9):ay (nth a.2.2 s) (k:Int)=some (D.mv a s k):=aj (by omega) (by rw[V.rowAt h0 h1];omega)
theorem VA.acc {s:Int} (h0:0≤s) (h1:s<n):ay a.2.1 s=some (nth a.2.1 s):=aj h0 (by rw[V.len];exact h1)
theorem Gc {s:Int} {k:Nat} (h0:0≤s) (h1:s<n) (hk:k<9):aZ a s (k:Int)=some (mv a s k):=by
 unfold aZ ju
 rw[if_neg (by simp;omega),If];simp only[Option.bind_some]
 rw[if_pos (by simp;omega),V.get h0 h1];simp only[Option.bind_some]
 rw[V.get2 h0 h1 hk];rfl
end
end D
namespace D
open Go.RowKit
abbrev Tok:=Int×Int×Int×Int
def ar (t:Tok):Int:=
 if t.1=1∨t.1=2 then (if t.2.1=0∧t.2.2.1=0∧t.2.2.2=0 then 0 else -1)
 else if t.1=3 then (if (0≤t.2.1∧t.2.1≤8)∧t.2.2.1=0∧t.2.2.2=0 then 0 else -1)
 else if t.1=4∨t.1=5 then (if t.2.1=0∧t.2.2.1=0∧t.2.2.2=0 then 2 else -1)
 else if t.1=6 then (if t.2.1=0∧t.2.2.1=0∧t.2.2.2=0 then 1 else -1)
 else if t.1=7 then (if t.2.1=0∧(0≤t.2.2.1∧t.2.2.1≤t.2.2.2)∧(1≤t.2.2.2∧t.2.2.2≤3) then 1 else -1)
 else -1
theorem Rv (x:Int):oj x=some (decide (0≤x∧x≤8)):=by unfold oj;rw[Pp];rfl
theorem Rw (x:Int):ju x=some (decide (0≤x∧x≤8)):=by unfold ju;rw[If];rfl
theorem Zb (t:Tok):nq t=some (ar t):=by
 obtain ⟨k,l,lo,hi⟩:=t
 unfold nq ar
 simp only[Rv,Pp,Option.bind_some]
 by_cases h1:k=1
 ·subst h1;simp;grind
 by_cases h2:k=2
 ·subst h2;simp;grind
 by_cases h3:k=3
 ·subst h3;simp;grind
 by_cases h4:k=4
 ·subst h4;simp;grind
 by_cases h5:k=5
 ·subst h5;simp;grind
 by_cases h6:k=6
 ·subst h6;simp;grind
 by_cases h7:k=7
 ·subst h7;simp;grind
 simp[h1,h2,h3,h4,h5,h6,h7]
theorem WK (t:Tok):pY t=some (decide (0≤ar t)):=by
 obtain ⟨k,l,lo,hi⟩:=t
 unfold pY ar
 simp only[Rw,If,Option.bind_some]
 by_cases h1:k=1
 ·subst h1;simp;grind
 by_cases h2:k=2
 ·subst h2;simp;grind
 by_cases h3:k=3
 ·subst h3;simp only[]
  by_cases a:0≤l∧l≤8 <;> by_cases b:lo=0 <;> by_cases c:hi=0 <;> simp[a,b,c]
 by_cases h4:k=4
 ·subst h4;simp;grind
 by_cases h5:k=5
 ·subst h5;simp;grind
 by_cases h6:k=6
 ·subst h6;simp;grind
 by_cases h7:k=7
 ·subst h7;simp only[]
  by_cases a:l=0 <;> by_cases b:0≤lo∧lo≤hi <;> by_cases c:1≤hi∧hi≤3 <;> simp[a,b,c]
 simp[h1,h2,h3,h4,h5,h6,h7]
theorem vF (t:Tok): -1≤ar t∧ar t≤2:=by
 unfold ar
 grind
theorem nU {t:Tok} (h:0≤ar t):(ar t=2∧(t.1=4∨t.1=5))∨(ar t=1∧(t.1=6∨t.1=7))∨(ar t=0∧(t.1=1∨t.1=2∨t.1=3)):=by
 unfold ar at h⊢
 grind
theorem AA {t:Tok} (h:0≤ar t) (k:t.1=7):(0≤t.2.2.1∧t.2.2.1≤t.2.2.2)∧(1≤t.2.2.2∧t.2.2.2≤3):=by
 unfold ar at h
 grind
mutual
def flat:Tr Tok→List Tok
 | .nil=>[]
 | .node t ks=>jl ks++ [t]
def jl:List (Tr Tok)→List Tok
 | [] =>[]
 | k::ks=>flat k++jl ks
end
inductive WT:Tr Tok→Prop
 | node {t:Tok} {ks:List (Tr Tok)} :ar t=(ks.length:Int)→(∀k,k∈ks→WT k)→WT (.node t ks)
theorem px: ∀(a b:List (Tr Tok)),jl (a++b)=jl a++jl b
 | [],b=>rfl
 | k::a,b=>by rw[List.cons_append,jl,jl,px a b,List.append_assoc]
theorem mc (x:Tr Tok):jl [x] =flat x:=by rw[jl,jl,List.append_nil]
theorem Ov (x y:Tr Tok):jl [x,y] =flat x++flat y:=by rw[jl,mc]
theorem WT.cases {x:Tr Tok} (h:WT x):(∃t,x= .node t [] ∧ar t=0)∨(∃t a,x= .node t [a] ∧ar t=1∧WT a)∨ ∃t a b,x= .node t [a,b] ∧ar t=2∧WT a∧WT b:=by
 cases h with
 | @node t ks h1 h2 =>
  have:=(vF t).2
  match ks,h1,h2 with
  | [],h1,h2=>exact .inl ⟨t,rfl,h1⟩
  | [a],h1,h2=>exact .inr (.inl ⟨t,a,rfl,h1,h2 a (by simp)⟩)
  | [a,b],h1,h2=>exact .inr (.inr ⟨t,a,b,rfl,h1,h2 a (by simp),h2 b (by simp)⟩)
  | _::_::_::_,h1,h2=>simp at h1;omega
theorem WT.ind {p:Tr Tok→Prop} (h0: ∀t,ar t=0→p (.node t [])) (h1: ∀t a,ar t=1→WT a→p a→p (.node t [a])) (h2: ∀t a b,ar t=2→WT a→WT b→p a→p b→p (.node t [a,b])) {x:Tr Tok} (h:WT x):p x:=by
 induction h with
 | @node t ks e k ih =>
  have:=(vF t).2
  match ks,e,k,ih with
  | [],e,k,ih=>exact h0 t e
  | [a],e,k,ih=>exact h1 t a e (k a (by simp)) (ih a (by simp))
  | [a,b],e,k,ih=>exact h2 t a b e (k a (by simp)) (k b (by simp)) (ih a (by simp)) (ih b (by simp))
  | _::_::_::_,e,_,_=>simp at e;omega
theorem BA (t:Tok):flat (.node t [])= [t]:=by rw[flat,jl];rfl
theorem DR (t:Tok) (a:Tr Tok):flat (.node t [a])=flat a++ [t]:=by rw[flat,mc]
theorem ug (t:Tok) (a b:Tr Tok):flat (.node t [a,b])=(flat a++flat b)++ [t]:=by rw[flat,Ov]
theorem WT.pos {x:Tr Tok} (h:WT x):1≤(flat x).length:=by
 cases h with
 | node h1 h2=>rw[flat];simp
def stp (s:List (Tr Tok)) (t:Tok):Option (List (Tr Tok)):=if ar t<0∨(s.length:Int)<ar t then none else some (s.take (s.length - (ar t).toNat)++ [.node t (s.drop (s.length - (ar t).toNat))])
def run:List (Tr Tok)→List Tok→Option (List (Tr Tok))
 | s,[] =>some s
 | s,t::l=>(stp s t).bind fun s'=>run s' l
theorem DS: ∀(a:List Tok) {b:List Tok} {s:List (Tr Tok)},run s (a++b)=(run s a).bind fun s'=>run s' b
 | [],b,s=>rfl
 | t::a,b,s=>by
  rw[List.cons_append,run,run]
  cases stp s t with
  | none=>rfl
  | some s'=>exact DS a
theorem vG {a:List Tok} {t:Tok} {s:List (Tr Tok)} :run s (a++ [t])=(run s a).bind fun s'=>stp s' t:=by
 rw[DS]
 congr 1
 funext s'
 rw[run]
 cases stp s' t <;> rfl
theorem SM: ∀ {l:List Tok} {s s':List (Tr Tok)},run s l=some s'→(∀k,k∈s→WT k)→(∀k,k∈s'→WT k)∧jl s'=jl s++l
 | [],s,s',h,hs=>by
  obtain rfl:=Option.some.inj h
  exact ⟨hs,by simp⟩
 | t::l,s,s',h,hs=>by
  rw[run] at h
  unfold stp at h
  by_cases c:ar t<0∨(s.length:Int)<ar t
  ·rw[if_pos c] at h;cases h
  ·rw[if_neg c] at h
   have hlen:(s.drop (s.length - (ar t).toNat)).length=(ar t).toNat:=by rw[List.length_drop];omega
   obtain ⟨k1,k2⟩:=SM (show run _ l=some s' from h) fun k hk=>by
    rcases List.mem_append.1 hk with hk | hk
    ·exact hs k (List.mem_of_mem_take hk)
    ·obtain rfl:=List.mem_singleton.1 hk
     exact .node (by rw[hlen];omega) fun k hk=>hs k (List.mem_of_mem_drop hk)
   refine ⟨k1,?_⟩
   rw[k2,px,mc,flat,←List.append_assoc,←px,List.take_append_drop]
   simp
theorem Rx {x:Tr Tok} (h:WT x): ∀s,run s (flat x)=some (s++ [x]):=by
 refine WT.ind (p:=fun x=> ∀s,run s (flat x)=some (s++ [x])) ?_ ?_ ?_ h
 ·intro t e s
  rw[BA,run,stp,if_neg (by omega),e]
  simp[run]
 ·intro t a e _ ia s
  rw[DR,vG,ia]
  show stp (s++ [a]) t=_
  rw[stp,if_neg (by simp;omega),e]
  simp
 ·intro t a b e _ _ ia ib s
  rw[ug,vG,DS,ia]
  show ((run (s++ [a]) (flat b)).bind fun s'=>stp s' t)=_
  rw[ib]
  show stp (s++ [a] ++ [b]) t=_
  rw[stp,if_neg (by simp;omega),e]
  have:(s++ [a] ++ [b]).length - (2:Int).toNat=s.length:=by simp
  rw[this]
  simp
def isX (e:List Tok):Bool:=match run [] e with
 | some [_] =>true
 | _=>false
theorem Ow {e:List Tok} (h:isX e=true): ∃x,run [] e=some [x] ∧WT x∧flat x=e:=by
 unfold isX at h
 split at h
 ·rename_i x hx
  obtain ⟨k1,k2⟩:=SM hx (fun k hk=>by cases hk)
  refine ⟨x,hx,k1 x (by simp),?_⟩
  rw[mc] at k2
  rw[k2];rfl
 ·cases h
theorem Ox {l:List Tok} : ∀ {s s':List (Tr Tok)},run s l=some s'→s'.length≤s.length+l.length:=by
 induction l with
 | nil=>intro s s' h;obtain rfl:=Option.some.inj h;simp
 | cons t l ih =>
  intro s s' h
  rw[run] at h
  obtain ⟨s1,h1,h2⟩:=Option.bind_eq_some_iff.1 h
  have h3:=ih h2
  unfold stp at h1
  split at h1
  ·cases h1
  ·obtain rfl:=Option.some.inj h1
   simp only[List.length_append,List.length_take,List.length_cons,List.length_nil] at h3⊢
   omega
theorem AB {e:List Tok} {i:Nat} (h:i<e.length):e.take (i+1)=e.take i++ [nth e (i:Int)]:=by
 rw[List.take_succ_eq_append_getElem h,bP h]
theorem ym {e:List Tok} {i:Nat} (h:i<e.length) {st:List (Tr Tok)} (h1:run [] (e.take i)=some st) (h2:stp st (nth e (i:Int))=none):run [] e=none:=by
 have:run [] (e.take (i+1))=none:=by rw[AB h,vG,h1];exact h2
 rw[←List.take_append_drop (i+1) e,DS,this];rfl
theorem Ry {e:List Tok} (he:e.length≤1048576):sB e=some (isX e):=by
 obtain ⟨o,eo,hq⟩:=cz (f:=pV e) (fun i s=> ∃st,s=((st.length:Int),(i:Int))∧run [] (e.take i)=some st) (fun o=>(o= .ret false∧run [] e=none)∨ ∃st,o= .brk ((st.length:Int),(e.length:Int))∧run [] e=some st) e.length (s:=(0,0)) (by
  rintro i s hi ⟨st,rfl,hst⟩
  have hl:=Ox hst
  simp only[List.length_nil,List.length_take] at hl
  unfold pV
  simp only[dj]
  by_cases c:i<e.length
  ·rw[if_pos (by simp;omega),aj (by omega) (by omega)];simp only[Option.bind_some]
   rw[Zb];simp only[Option.bind_some]
   have hr:=vF (nth e (i:Int))
   by_cases c1:ar (nth e (i:Int))<0
   ·refine .inr ⟨_,by rw[if_pos (by simpa using c1)],(fun s' e=>by cases e),.inl ⟨rfl,ym c hst ?_⟩⟩
    rw[stp,if_pos (.inl c1)]
   ·rw[if_neg (by simpa using c1)]
    by_cases c2:ar (nth e (i:Int))>(st.length:Int)
    ·refine .inr ⟨_,by rw[if_pos (by simpa using c2)],(fun s' e=>by cases e),.inl ⟨rfl,ym c hst ?_⟩⟩
     rw[stp,if_pos (.inr c2)]
    ·rw[if_neg (by simpa using c2)]
     refine .inl ⟨c,_,rfl,st.take (st.length - (ar (nth e (i:Int))).toNat)++ [.node (nth e (i:Int)) (st.drop (st.length - (ar (nth e (i:Int))).toNat))],?_,?_⟩
     ·rw[cC (n:=(st.length:Int) - ar (nth e (i:Int))) (by omega) (by omega),cC (by omega) (by omega),aa (by omega)]
      congr 1
      simp only[List.length_append,List.length_take,List.length_cons,List.length_nil]
      omega
     ·rw[AB c,vG,hst]
      show stp st _=_
      rw[stp,if_neg (by omega)]
  ·obtain rfl:i=e.length:=by omega
   rw[List.take_of_length_le (by omega)] at hst
   exact .inr ⟨_,by rw[if_neg (by simp)],(fun s' e=>by cases e),.inr ⟨st,rfl,hst⟩⟩) ⟨[],rfl,rfl⟩ (mf (by omega))
 unfold sB
 rcases hq with ⟨rfl,h⟩ | ⟨st,rfl,h⟩
 ·rw[a8 eo];unfold isX;rw[h]
 ·rw[af eo];unfold isX;rw[h]
  match st with
  | [] =>rfl
  | [_] =>rfl
  | _::_::_=>simp;omega
theorem Yf {t:Tok} (h:0≤ar t):(Option.bind ((if t.1==4 then (some (t.1==4)) else (some (t.1==5)):Option Bool)) (fun s3=>if s3 then (some 2) else (Option.bind ((if t.1==6 then (some (t.1==6)) else (some (t.1==7)):Option Bool)) (fun s4=>if s4 then (some 1) else (some 0)))):Option Int)=some (ar t):=by
 rcases nU h with ⟨e,k | k⟩ | ⟨e,k | k⟩ | ⟨e,k | k | k⟩ <;> rw[e] <;> simp[k]
theorem UZ (t:Tok): ∃n:Int,(Option.bind ((if t.1==4 then (some (t.1==4)) else (some (t.1==5)):Option Bool)) (fun s3=>if s3 then (some 2) else (Option.bind ((if t.1==6 then (some (t.1==6)) else (some (t.1==7)):Option Bool)) (fun s4=>if s4 then (some 1) else (some 0)))):Option Int)=some n:=by
 by_cases h4:t.1=4
 ·exact ⟨2,by simp[h4]⟩
 by_cases h5:t.1=5
 ·exact ⟨2,by simp[h5]⟩
 by_cases h6:t.1=6
 ·exact ⟨1,by simp[h6]⟩
 by_cases h7:t.1=7
 ·exact ⟨1,by simp[h7]⟩
 exact ⟨0,by simp[h4,h5,h6,h7]⟩
def xW (e:List Tok):Tr Tok:=match run [] e with
 | some [x] =>x
 | _=>.nil
theorem DT {e:List Tok} (he:e.length≤1048576):na e=some (xW e):=by
 obtain ⟨o,eo,hq⟩:=cz (f:=pZ e) (fun i s=> ∃st,s=(st,(i:Int))∧run [] (e.take i)=some st) (fun o=>(o= .ret Tr.nil∧run [] e=none)∨ ∃st,o= .brk (st,(e.length:Int))∧run [] e=some st) e.length (s:=([],0)) (by
  rintro i s hi ⟨st,rfl,hst⟩
  have hl:=Ox hst
  simp only[List.length_nil,List.length_take] at hl
  unfold pZ
  simp only[dj]
  by_cases c:i<e.length
  ·rw[if_pos (by simp;omega),aj (by omega) (by omega)];simp only[Option.bind_some]
   have hr:=vF (nth e (i:Int))
   by_cases c1:ar (nth e (i:Int))<0
   ·obtain ⟨n,hn⟩:=UZ (nth e (i:Int))
    rw[hn];simp only[Option.bind_some]
    rw[WK];simp only[Option.bind_some]
    refine .inr ⟨_,by rw[if_neg (by simp;omega)],(fun s' e=>by cases e),.inl ⟨rfl,ym c hst ?_⟩⟩
    rw[stp,if_pos (.inl c1)]
   ·rw[Yf (by omega)];simp only[Option.bind_some]
    rw[WK];simp only[Option.bind_some]
    rw[if_pos (by simp;omega),cC (n:=(st.length:Int) - ar (nth e (i:Int))) (by omega) (by omega)]
    by_cases c2:ar (nth e (i:Int))>(st.length:Int)
    ·refine .inr ⟨_,by rw[if_pos (by simp;omega)],(fun s' e=>by cases e),.inl ⟨rfl,ym c hst ?_⟩⟩
     rw[stp,if_pos (.inr c2)]
    ·rw[if_neg (by simp;omega),show∀p:Prop,∀ [Decidable p],p→chk p=some () from fun p _ hp=>by unfold chk;rw[if_pos hp]]
     ·simp only[Option.bind_some]
      have e1:((st.length:Int) - ar (nth e (i:Int))).toNat=st.length - (ar (nth e (i:Int))).toNat:=by omega
      rw[e1,aw (by simp;omega)];simp only[Option.bind_some]
      rw[aw (by simp;omega)];simp only[Option.bind_some,List.nil_append,aa (show i<9223372036854775807 by omega)]
      refine .inl ⟨c,_,rfl,_,rfl,?_⟩
      rw[AB c,vG,hst]
      show stp st _=_
      rw[stp,if_neg (by omega)]
     ·omega
  ·obtain rfl:i=e.length:=by omega
   rw[List.take_of_length_le (by omega)] at hst
   exact .inr ⟨_,by rw[if_neg (by simp)],(fun s' e=>by cases e),.inr ⟨st,rfl,hst⟩⟩) ⟨[],rfl,rfl⟩ (mf (by omega))
 unfold na
 rcases hq with ⟨rfl,h⟩ | ⟨st,rfl,h⟩
 ·rw[a8 eo];unfold xW;rw[h]
 ·rw[af eo];unfold xW;rw[h]
  match st with
  | [] =>rfl
  | [x] =>rfl
  | _::_::_ =>
   simp only
   rw[if_pos (by simp;omega)]
theorem wR {x:Tr Tok} (h:WT x):xW (flat x)=x:=by unfold xW;rw[Rx h];rfl
theorem Rz {e:List Tok} (he:e.length≤1048576):sE e=some (isX e):=by
 unfold sE
 rw[DT he];simp only[Option.bind_some]
 congr 1
 by_cases h:isX e=true
 ·rw[h]
  obtain ⟨x,h1,h2,h3⟩:=Ow h
  have:xW e=x:=by unfold xW;rw[h1]
  rw[this]
  cases h2 with
  | node _ _=>rfl
 ·have:xW e= .nil:=by
   unfold xW
   unfold isX at h
   split
   ·rename_i x hx;rw[hx] at h;exact absurd rfl h
   ·rfl
  rw[this,Bool.eq_false_iff.2 h];rfl
theorem Ig {e:List Tok} (he:e.length≤1048576):jZ e=some (decide (e.length≤24)&&isX e):=by
 unfold jZ
 rw[Ry he]
 by_cases c:e.length≤24
 ·rw[if_pos (by simp;omega)];simp[c]
 ·rw[if_neg (by simp;omega)];simp[c]
theorem Ih {e:List Tok} (he:e.length≤1048576):j7 e=some (decide (e.length≤24)&&isX e):=by
 unfold j7
 rw[Rz he]
 by_cases c:e.length≤24
 ·rw[if_pos (by simp;omega)];simp[c]
 ·rw[if_neg (by simp;omega)];simp[c]
theorem mD {p:Prop} [Decidable p] (h:p):chk p=some ():=by unfold chk;rw[if_pos h]
theorem U0 {A:List Tok} {x:Tr Tok} (hx:WT x) (hl:(A++flat x).length≤1000000):gj (A++flat x)=some (A.length:Int):=by
 obtain ⟨s',e,ks,q1,q2,q3⟩: ∃s',ai (lG (A++flat x)) aC (1,((A++flat x).length:Int))=some (.brk s')∧ ∃ks:List (Tr Tok),ks= [] ∧s'.2=(A.length:Int)∧True:=by
  obtain ⟨o,eo,hq⟩:=cz (f:=lG (A++flat x)) (fun i s=> ∃ks:List (Tr Tok),(∀k,k∈ks→WT k)∧s=((ks.length:Int),(((A++jl ks).length:Nat):Int))∧i+(jl ks).length=(flat x).length∧(A++flat x).take (A++jl ks).length=A++jl ks) (fun o=> ∃s',o= .brk s'∧s'.2=(A.length:Int)) (flat x).length (s:=(1,((A++flat x).length:Int))) (by
   rintro i s hi ⟨ks,hw,rfl,hlen,htk⟩
   unfold lG
   simp only[dj]
   rcases List.eq_nil_or_concat ks with rfl | ⟨ks',y,rfl⟩
   ·refine .inr ⟨_,by rw[if_neg (by simp)],(fun s' e=>by cases e),_,rfl,?_⟩
    simp[jl]
   ·have hy:=hw y (by simp)
    cases hy with
    | @node t cs h1 h2 =>
     have hfl:jl (ks'++ [.node t cs])=jl (ks'++cs)++ [t]:=by rw[px,mc,flat,px,List.append_assoc]
     rw[List.concat_eq_append,hfl] at hlen htk⊢
     simp only[List.length_append,List.length_cons,List.length_nil] at hlen htk hl⊢
     rw[if_pos (by simp <;> omega)]
     have hpos:IntKind.i64.wrap (((A.length+((jl (ks'++cs)).length+1):Nat):Int) - 1)=((A.length+(jl (ks'++cs)).length:Nat):Int):=by
      rw[cC (by omega) (by omega)];omega
     have hget:nth (A++flat x) ((A.length+(jl (ks'++cs)).length:Nat):Int)=t:=by
      have hlt:A.length+(jl (ks'++cs)).length<(A++flat x).length:=by rw[List.length_append];omega
      have e1:=congrArg (fun l:List Tok=>l[A.length+(jl (ks'++cs)).length]?) htk
      rw[List.getElem?_take_of_lt (by omega),List.getElem?_eq_getElem hlt,←List.append_assoc,List.getElem?_append_right (by rw[List.length_append];omega),List.length_append] at e1
      rw[bP hlt]
      simpa using e1
     rw[hpos,aj (by omega) (by simp only[List.length_append];omega),hget];simp only[Option.bind_some]
     rw[Zb,h1];simp only[Option.bind_some]
     have hcl:(cs.length:Int)≤2:=by rw[←h1];exact (vF t).2
     have hkl:ks'.length≤(jl (ks'++cs)).length+1000000:=by
      have: ∀l:List (Tr Tok),(∀k,k∈l→WT k)→l.length≤(jl l).length:=by
       intro l
       induction l with
       | nil=>intro _;simp
       | cons k l ih =>
        intro h
        have h1:=(h k (by simp)).pos
        have h2:=ih fun k hk=>h k (by simp[hk])
        rw[jl];simp only[List.length_cons,List.length_append];omega
      have:=this ks' fun k hk=>hw k (by simp[hk])
      rw[px,List.length_append];omega
     refine .inl ⟨by omega,_,rfl,ks'++cs,fun k hk=>?_,?_,by omega,?_⟩
     ·rcases List.mem_append.1 hk with hk | hk
      ·exact hw k (by simp[hk])
      ·exact h2 k hk
     ·rw[cC (n:=((ks'.length+1:Nat):Int) - 1) (by omega) (by omega),cC (by omega) (by omega)]
      congr 1
      (simp only[List.length_append]) <;> omega
     ·have e1:=congrArg (List.take (A++jl (ks'++cs)).length) htk
      rw[List.take_take,Nat.min_eq_left (by rw[List.length_append];omega),←List.append_assoc,List.take_left] at e1
      rw[List.length_append] at e1
      exact e1) ⟨[x],fun k hk=>by (obtain rfl:=List.mem_singleton.1 hk;exact hx),by rw[mc];rfl,by rw[mc];omega,by rw[mc,List.take_length]⟩ (mf (by rw[List.length_append] at hl;omega))
  obtain ⟨s',rfl,h2⟩:=hq
  exact ⟨s',eo,[],rfl,h2,trivial⟩
 unfold gj
 rw[af e,q2]
end D
end Go.Proofs.YtakjhbbbjbebdaaGreat
